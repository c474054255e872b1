import Derived.Test.YtfholjcelnkleaaMFnExactJoinAll1
import Derived.Test.YtfholjcelnkleaaMFnExactJoinAll2
section
namespace Go.Proofs.Ytfholjcelnkleaa.Print
open Go.RowKit Go.Proofs.YtfholjcelnkleaaV.PrintWords Go.Proofs.YtfholjcelnkleaaV.PrintLast Go.Proofs.YtfholjcelnkleaaV.PrintMore
attribute [local go_sem] max2_int min2_int max_two min_two max_three min_three max_four min_four
set_option linter.unusedVariables false
set_option linter.unusedSimpArgs false
set_option maxHeartbeats 8000000
set_option maxRecDepth 100000
mutual
def spec_JoinIn.l0 : Nat → Int → Int → List (S164) → Int → Int → List (S44) → List (S164) → Int → Int → ByteArray → Int → List (S164) → Int → Int → List (S44) → List (S164) → Int → Int → ByteArray → Option (Int × (List (S164)) × Int × Int × (List (S44)))
 | 0, _, _, _, _, _, _, _, _, _, _, _, _, _, _, _, _, _, _, _ => none
 | k + 1, x7, x899000, x899001, x899002, x899003, x899004, x900000, x900001, x900002, x900003, x911000, x911001, x911002, x911003, x911004, x918000, x918001, x918002, x918003 => if x7 < (x899004.length : Int) then (if 0 ≤ x7 then ((spec_SameSet.f k ((rd_T44 x899004 x7).f0) x900000).bind fun t919 => (if t919 = true then (if x7 < (x911004.length : Int) then (some (x911000, x911001, x911002, x911003, (x911004.set (x7 : Int).toNat (⟨x918000, x918001, x918002, x918003⟩ : S44)))) else (none)) else (spec_JoinIn.l0 k (wrap64 (x7 + 1)) x899000 x899001 x899002 x899003 x899004 x900000 x900001 x900002 x900003 x911000 x911001 x911002 x911003 x911004 x918000 x918001 x918002 x918003))) else (none)) else (spec_JoinIn.l1 k 0 x899000 x899001 x899002 x899003 x899004 x900000 x900001 x900002 x900003 x911000 x911001 x911002 x911003 x911004 x918000 x918001 x918002 x918003)
def spec_JoinIn.l1 : Nat → Int → Int → List (S164) → Int → Int → List (S44) → List (S164) → Int → Int → ByteArray → Int → List (S164) → Int → Int → List (S44) → List (S164) → Int → Int → ByteArray → Option (Int × (List (S164)) × Int × Int × (List (S44)))
 | 0, _, _, _, _, _, _, _, _, _, _, _, _, _, _, _, _, _, _, _ => none
 | k + 1, x8, x899000, x899001, x899002, x899003, x899004, x900000, x900001, x900002, x900003, x911000, x911001, x911002, x911003, x911004, x918000, x918001, x918002, x918003 => if x8 < (x899004.length : Int) then (if 0 ≤ x8 then ((spec_SetLess.f k x900000 ((rd_T44 x899004 x8).f0)).bind fun t922 => (if t922 = true then (if x8 ≤ (x899004.length : Int) then ((spec_l4All.f k (x899004.take (x8 : Int).toNat)).bind fun t927 => (if t927.length < 2513169434916 then ((some (t927 ++ [(⟨x918000, x918001, x918002, x918003⟩ : S44)] : List (S44))).bind fun y931 => ((spec_l4All.f k (x899004.drop (x8 : Int).toNat)).bind fun t938 => (if y931.length + t938.length < 2513169434916 then (some (x911000, x911001, x911002, x911003, (y931 ++ t938))) else (none)))) else (none))) else (none)) else (spec_JoinIn.l1 k (wrap64 (x8 + 1)) x899000 x899001 x899002 x899003 x899004 x900000 x900001 x900002 x900003 x911000 x911001 x911002 x911003 x911004 x918000 x918001 x918002 x918003))) else (none)) else (if 0 ≤ x8 then (if x8 ≤ (x899004.length : Int) then ((spec_l4All.f k (x899004.take (x8 : Int).toNat)).bind fun t948 => (if t948.length < 2513169434916 then ((some (t948 ++ [(⟨x918000, x918001, x918002, x918003⟩ : S44)] : List (S44))).bind fun y952 => ((spec_l4All.f k (x899004.drop (x8 : Int).toNat)).bind fun t959 => (if y952.length + t959.length < 2513169434916 then (some (x911000, x911001, x911002, x911003, (y952 ++ t959))) else (none)))) else (none))) else (none)) else (none))
end
def spec_JoinIn.f (k : Nat) (a0_0 : Int) (l0_1 : List (S164)) (a0_2 : Int) (a0_3 : Int) (l0_4 : List (S44)) (l1_0 : List (S164)) (a1_1 : Int) (a1_2 : Int) (a1_3 : ByteArray) : Option (Int × (List (S164)) × Int × Int × (List (S44))) := (spec_l11Copy.f k a0_0 l0_1 a0_2 a0_3 l0_4).bind fun bt901 => ((spec_l4Copy.f l1_0 a1_1 a1_2 a1_3).bind fun bt911 => (spec_JoinIn.l0 k 0 a0_0 l0_1 a0_2 a0_3 l0_4 l1_0 a1_1 a1_2 a1_3 bt901.1 bt901.2.1 bt901.2.2.1 bt901.2.2.2.1 bt901.2.2.2.2 bt911.1 bt911.2.1 bt911.2.2.1 bt911.2.2.2))
theorem spec_JoinIn.mono_l : ∀ k, (∀ y0 y1 y2 y3 y4 y5 y6 y7 y8 y9 y10 y11 y12 y13 y14 y15 y16 y17 y18, LeO (spec_JoinIn.l0 k y0 y1 y2 y3 y4 y5 y6 y7 y8 y9 y10 y11 y12 y13 y14 y15 y16 y17 y18) (spec_JoinIn.l0 (k + 1) y0 y1 y2 y3 y4 y5 y6 y7 y8 y9 y10 y11 y12 y13 y14 y15 y16 y17 y18)) ∧ (∀ y0 y1 y2 y3 y4 y5 y6 y7 y8 y9 y10 y11 y12 y13 y14 y15 y16 y17 y18, LeO (spec_JoinIn.l1 k y0 y1 y2 y3 y4 y5 y6 y7 y8 y9 y10 y11 y12 y13 y14 y15 y16 y17 y18) (spec_JoinIn.l1 (k + 1) y0 y1 y2 y3 y4 y5 y6 y7 y8 y9 y10 y11 y12 y13 y14 y15 y16 y17 y18))
 | 0 => ⟨fun _ _ _ _ _ _ _ _ _ _ _ _ _ _ _ _ _ _ _ r h => by simp [spec_JoinIn.l0] at h, fun _ _ _ _ _ _ _ _ _ _ _ _ _ _ _ _ _ _ _ r h => by simp [spec_JoinIn.l1] at h⟩
 | k + 1 => by
  obtain ⟨ih0, ih1⟩ := spec_JoinIn.mono_l k
  refine ⟨?_, ?_⟩
  ·
   intro y0 y1 y2 y3 y4 y5 y6 y7 y8 y9 y10 y11 y12 y13 y14 y15 y16 y17 y18
   unfold spec_JoinIn.l0
   repeat' first
   | (with_reducible exact ih0 _ _ _ _ _ _ _ _ _ _ _ _ _ _ _ _ _ _ _)
   | (with_reducible exact ih1 _ _ _ _ _ _ _ _ _ _ _ _ _ _ _ _ _ _ _)
   | (with_reducible exact spec_SameSet.mono _ _ _)
   | (with_reducible exact spec_SetLess.mono _ _ _)
   | (with_reducible exact spec_l11Copy.mono _ _ _ _ _ _)
   | (with_reducible exact spec_l4All.mono _ _)
   | (with_reducible exact LeO.refl _)
   | (with_reducible exact LeO.none _)
   | (with_reducible refine LeO.ite ?_ ?_)
   | (with_reducible refine LeO.bind ?_ (fun _ => ?_))
   | exact ih0 _ _ _ _ _ _ _ _ _ _ _ _ _ _ _ _ _ _ _
   | exact ih1 _ _ _ _ _ _ _ _ _ _ _ _ _ _ _ _ _ _ _
   | exact spec_SameSet.mono _ _ _
   | exact spec_SetLess.mono _ _ _
   | exact spec_l11Copy.mono _ _ _ _ _ _
   | exact spec_l4All.mono _ _
  intro y0 y1 y2 y3 y4 y5 y6 y7 y8 y9 y10 y11 y12 y13 y14 y15 y16 y17 y18
  unfold spec_JoinIn.l1
  repeat' first
  | (with_reducible exact ih0 _ _ _ _ _ _ _ _ _ _ _ _ _ _ _ _ _ _ _)
  | (with_reducible exact ih1 _ _ _ _ _ _ _ _ _ _ _ _ _ _ _ _ _ _ _)
  | (with_reducible exact spec_SameSet.mono _ _ _)
  | (with_reducible exact spec_SetLess.mono _ _ _)
  | (with_reducible exact spec_l11Copy.mono _ _ _ _ _ _)
  | (with_reducible exact spec_l4All.mono _ _)
  | (with_reducible exact LeO.refl _)
  | (with_reducible exact LeO.none _)
  | (with_reducible refine LeO.ite ?_ ?_)
  | (with_reducible refine LeO.bind ?_ (fun _ => ?_))
  | exact ih0 _ _ _ _ _ _ _ _ _ _ _ _ _ _ _ _ _ _ _
  | exact ih1 _ _ _ _ _ _ _ _ _ _ _ _ _ _ _ _ _ _ _
  | exact spec_SameSet.mono _ _ _
  | exact spec_SetLess.mono _ _ _
  | exact spec_l11Copy.mono _ _ _ _ _ _
  | exact spec_l4All.mono _ _
theorem spec_JoinIn.mono : ∀ a0 a1 a2 a3 a4 a5 a6 a7 a8 k, LeO (spec_JoinIn.f k a0 a1 a2 a3 a4 a5 a6 a7 a8) (spec_JoinIn.f (k + 1) a0 a1 a2 a3 a4 a5 a6 a7 a8) := by
 intro a0 a1 a2 a3 a4 a5 a6 a7 a8 k
 obtain ⟨ih0, ih1⟩ := spec_JoinIn.mono_l k
 unfold spec_JoinIn.f
 repeat' first
   | (with_reducible exact ih0 _ _ _ _ _ _ _ _ _ _ _ _ _ _ _ _ _ _ _)
   | (with_reducible exact ih1 _ _ _ _ _ _ _ _ _ _ _ _ _ _ _ _ _ _ _)
   | (with_reducible exact spec_SameSet.mono _ _ _)
   | (with_reducible exact spec_SetLess.mono _ _ _)
   | (with_reducible exact spec_l11Copy.mono _ _ _ _ _ _)
   | (with_reducible exact spec_l4All.mono _ _)
   | (with_reducible exact LeO.refl _)
   | (with_reducible exact LeO.none _)
   | (with_reducible refine LeO.ite ?_ ?_)
   | (with_reducible refine LeO.bind ?_ (fun _ => ?_))
   | exact ih0 _ _ _ _ _ _ _ _ _ _ _ _ _ _ _ _ _ _ _
   | exact ih1 _ _ _ _ _ _ _ _ _ _ _ _ _ _ _ _ _ _ _
   | exact spec_SameSet.mono _ _ _
   | exact spec_SetLess.mono _ _ _
   | exact spec_l11Copy.mono _ _ _ _ _ _
   | exact spec_l4All.mono _ _
def spec_JoinIn.T6 : Bool × List (List Nat × List Nat) := (true, [([], []), ([0], [0]), ([], []), ([1, 2], [1, 2]), ([3], [3]), ([4], [4]), ([], []), ([6], [6]), ([5, 7], [5, 7])])
def spec_JoinIn.B6 : List Nat := [0, 1, 0, 7, 15, 31, 0, 64, 255]
theorem spec_JoinIn.tab6 : rtab .any (opsOf Try.f56 6) = spec_JoinIn.T6 := by kernel_rfl
theorem spec_JoinIn.bits6 : waitsOk spec_JoinIn.T6.2 spec_JoinIn.B6 = true := by kernel_rfl
def spec_JoinIn.T10 : Bool × List (List Nat × List Nat) := (true, [([], []), ([], []), ([1], [1]), ([2], [2]), ([0, 3], [0, 3]), ([4], [4]), ([5], [5]), ([6, 5], [5, 6]), ([5], [5]), ([8, 5], [5, 8]), ([5], [5]), ([9, 10, 5], [5, 9, 10]), ([11, 5], [5, 11]), ([12, 5], [5, 12]), ([7, 13, 5, 5], [5, 7, 13]), ([14, 5], [5, 14]), ([5, 15], [5, 15])])
def spec_JoinIn.B10 : List Nat := [0, 0, 2, 6, 15, 31, 63, 127, 63, 319, 63, 1855, 3903, 7999, 16383, 32767, 65535]
theorem spec_JoinIn.tab10 : rtab .any (opsOf Try.f56 10) = spec_JoinIn.T10 := by kernel_rfl
theorem spec_JoinIn.bits10 : waitsOk spec_JoinIn.T10.2 spec_JoinIn.B10 = true := by kernel_rfl
def spec_JoinIn.T12 : Bool × List (List Nat × List Nat) := (true, [([], []), ([0], [0]), ([], []), ([1, 2], [1, 2]), ([3], [3]), ([], []), ([5], [5]), ([4, 6, 4], [4, 6]), ([], []), ([8], [8]), ([], []), ([9, 10], [9, 10]), ([11, 7], [11]), ([7, 12, 12], [7, 12]), ([0, 1, 2, 3, 4, 5, 6, 7, 8, 9, 10, 11, 12, 13], []), ([14, 13, 13, 0, 1, 2, 3, 4, 5, 6, 7, 8, 9, 10, 11, 12, 13], [13, 14])])
def spec_JoinIn.B12 : List Nat := [0, 1, 0, 7, 15, 0, 32, 127, 0, 256, 0, 1792, 4095, 8191, 16383, 32767]
theorem spec_JoinIn.tab12 : rtab .any (opsOf Try.f56 12) = spec_JoinIn.T12 := by kernel_rfl
theorem spec_JoinIn.bits12 : waitsOk spec_JoinIn.T12.2 spec_JoinIn.B12 = true := by kernel_rfl
theorem spec_JoinIn.calls (k : Nat) (a0_0 : Int) (A0_1 : Option Addr) (c0_1 : Nat) (l0_1 : List (S164)) (a0_2 : Int) (a0_3 : Int) (A0_4 : Option Addr) (c0_4 : Nat) (l0_4 : List (S44)) (A1_0 : Option Addr) (c1_0 : Nat) (l1_0 : List (S164)) (a1_1 : Int) (a1_2 : Int) (a1_3 : ByteArray) (r1 : Int) (r2 : List (S164)) (r3 : Int) (r4 : Int) (r5 : List (S44)) (w : World) (hr0_1 : Kd.C k164 w A0_1 l0_1.length l0_1) (hc0_1 : l0_1.length ≤ c0_1) (hr0_4 : Kd.C k44 w A0_4 l0_4.length l0_4) (hc0_4 : l0_4.length ≤ c0_4) (hr1_0 : Kd.C k164 w A1_0 l1_0.length l1_0) (hc1_0 : l1_0.length ≤ c1_0) (h : spec_JoinIn.f k a0_0 l0_1 a0_2 a0_3 l0_4 l1_0 a1_1 a1_2 a1_3 = some (r1, r2, r3, r4, r5)) :
  Calls Try.prog 56 #[.agg #[.int .i64 a0_0, .slice A0_1 l0_1.length c0_1, .int .i64 a0_2, .int .i64 a0_3, .slice A0_4 l0_4.length c0_4], .agg #[.slice A1_0 l1_0.length c1_0, .int .i64 a1_1, .int .i64 a1_2, .string a1_3]] w fun e w' => ∃ v1_ v4_ : Value, e = .returned (.agg #[.int .i64 r1, v1_, .int .i64 r3, .int .i64 r4, v4_]) ∧ Kd.R k164 164 w' w.heap.size (fun _ => True) v1_ r2 ∧ Kd.S k44 44 w' w.heap.size (fun k_ => some k_ ≠ (v1_ : Value).ownBlock) v4_ r5 ∧ Below w.heap.size w w' := by
 have hu75 := Try.underlying75
 have hu44 := Try.underlying44
 have HR0_1 := Aside0.mk hr0_1
 have HC0_1 := Aside0.mk hc0_1
 clear hr0_1 hc0_1
 have HR0_4 := Aside0.mk hr0_4
 have HC0_4 := Aside0.mk hc0_4
 clear hr0_4 hc0_4
 have HR1_0 := Aside0.mk hr1_0
 have HC1_0 := Aside0.mk hc1_0
 clear hr1_0 hc1_0
 have HB := Aside0.mk (Below.refl w.heap.size w)
 have H : ((spec_l11Copy.f k a0_0 l0_1 a0_2 a0_3 l0_4).bind fun bt901 => ((spec_l4Copy.f l1_0 a1_1 a1_2 a1_3).bind fun bt911 => (spec_JoinIn.l0 k 0 a0_0 l0_1 a0_2 a0_3 l0_4 l1_0 a1_1 a1_2 a1_3 bt901.1 bt901.2.1 bt901.2.2.1 bt901.2.2.2.1 bt901.2.2.2.2 bt911.1 bt911.2.1 bt911.2.2.1 bt911.2.2.2))) = some (r1, r2, r3, r4, r5) := h
 clear h
 replace H := Option.bind_eq_some_iff.mp H
 obtain ⟨⟨t901, t902, t905, t906, t907⟩, A30, H⟩ := H
 have A3 := Aside0.mk A30
 clear A30
 replace H := Option.bind_eq_some_iff.mp H
 obtain ⟨⟨t911, t914, t915, t916⟩, A40, H⟩ := H
 have A4 := Aside0.mk A40
 clear A40
 have H' := Aside0.mk H
 clear H
 go_enter Try.func56, Try.ntmps56
 go_wp2_with (first | ((with_reducible refine gate_dst (N := 2) rfl ?_); refine box_event ?hg (N := 2) ?hd (cs := #[.int .i64 a0_0, .slice A0_1 l0_1.length c0_1, .int .i64 a0_2, .int .i64 a0_3, .slice A0_4 l0_4.length c0_4]) (t := 75) ?hr ?_; (case hd => rfl); (case hg => rfl); (case hr => first | (go_simp; done) | (go_simp; rfl)); intro gb898 hg w5 hbox hb; have BK898 := Aside0.mk (hbox); have GW898 := Aside0.mk ((by rw [hg]; exact (below_size (hb_ HB.out)) : w.heap.size ≤ gb898)); replace HB := Aside0.mk (below_step (hb_ HB.out) hb); have GE898 := GW898; clear hb hbox hg) | ((with_reducible refine gate_dst (N := 3) rfl ?_); refine box_event ?hg (N := 3) ?hd (cs := #[.slice A1_0 l1_0.length c1_0, .int .i64 a1_1, .int .i64 a1_2, .string a1_3]) (t := 44) ?hr ?_; (case hd => rfl); (case hg => rfl); (case hr => first | (go_simp; done) | (go_simp; rfl)); intro gb899 hg w6 hbox hb; have BK899 := Aside0.mk (hbox); have GW899 := Aside0.mk ((by rw [hg]; exact (below_size (by repeat (first | (with_reducible first | exact HB.out | apply ba_ | apply bn_ | apply bd_ | apply bs_ GE898) | exact HB.out))) : w.heap.size ≤ gb899)); replace HB := Aside0.mk (below_step (by repeat (first | (with_reducible first | exact HB.out | apply ba_ | apply bn_ | apply bd_ | apply bs_ GE898) | exact HB.out)) hb); have GE899 := GW899; have NB898_899 := Aside0.mk (nl_ BK898.out hg); replace BK898 := Aside0.mk (bb_ BK898.out hb); have NB899_898 := Aside0.mk (NB898_899.out.symm); clear hb hbox hg) | ((with_reducible refine gate_dst (N := 4) rfl ?_); refine box_event ?hg (N := 4) ?hd (cs := #[.int .i64 0, .slice none 0 0, .int .i64 0, .int .i64 0, .slice none 0 0]) (t := 75) ?hr ?_; (case hd => rfl); (case hg => rfl); (case hr => first | (go_simp; done) | (go_simp; rfl)); intro gb900 hg w7 hbox hb; have BK900 := Aside0.mk (hbox); have GW900 := Aside0.mk ((by rw [hg]; exact (below_size (by repeat (first | (with_reducible first | exact HB.out | apply ba_ | apply bn_ | apply bd_ | apply bs_ GE898 | apply bs_ GE899) | exact HB.out))) : w.heap.size ≤ gb900)); replace HB := Aside0.mk (below_step (by repeat (first | (with_reducible first | exact HB.out | apply ba_ | apply bn_ | apply bd_ | apply bs_ GE898 | apply bs_ GE899) | exact HB.out)) hb); have GE900 := GW900; have NB898_900 := Aside0.mk (nl_ BK898.out hg); replace BK898 := Aside0.mk (bb_ BK898.out hb); have NB900_898 := Aside0.mk (NB898_900.out.symm); have NB899_900 := Aside0.mk (nl_ BK899.out hg); replace BK899 := Aside0.mk (bb_ BK899.out hb); have NB900_899 := Aside0.mk (NB899_900.out.symm); clear hb hbox hg; have hnb8 := NB898_899.out; have hnc8 := NB899_898.out; have hnb9 := NB898_900.out; have hnc9 := NB900_898.out; obtain ⟨hcz10_0, hcz10_1, hcz10_2, hcz10_3, hcz10_4, hfz10_0, hfz10_1, hfz10_2, hfz10_3, hfz10_4⟩ := bc5_ BK898.out) | ((with_reducible refine gate_callee (f := 113) rfl ?_); refine goesL_ (some 10) rfl rfl Try.func113 (by kernel_rfl) rfl #[.agg #[.int .i64 a0_0, .slice A0_1 l0_1.length c0_1, .int .i64 a0_2, .int .i64 a0_3, .slice A0_4 l0_4.length c0_4]] rfl (by (try simp only [mp_]); first | done | rfl | (simp only [List.length_drop, List.length_take]; rfl)) ?_; (with_reducible refine (spec_l11Copy.calls k a0_0 _ _ l0_1 a0_2 a0_3 _ _ l0_4 t901 t902 t905 t906 t907 _ ?side1 ?side2 ?side3 ?side4 A3.out).mono ?_); (case side1 => exact cp_ ((Kd.C_below HR0_1.out HB.out))); (case side2 => exact HC0_1.out); (case side3 => exact cp_ ((Kd.C_below HR0_4.out HB.out))); (case side4 => exact HC0_4.out); rintro e w11 ⟨v903, v908, rfl, ho0, ho1, hb⟩; refine ⟨_, rfl, ?_⟩; obtain ⟨gbz903, hz903⟩ := Kd.R_name ho0; have HO904 := Aside0.mk (Kd.R_lower (Kd.R_gez hz903 ho0) (below_size (by repeat (first | (with_reducible first | exact HB.out | apply ba_ | apply bn_ | apply bd_ | apply bs_ GE898 | apply bs_ GE899 | apply bs_ GE900) | exact HB.out)))); have HO909 := Aside0.mk (Kd.S_lower (Kd.S_newB (Kd.S_gez hz903 ho1) (g := gb899) (o := .cells #[.slice A1_0 l1_0.length c1_0, .int .i64 a1_1, .int .i64 a1_2, .string a1_3] 44 (0, 0)) (pb_ BK899.out)) (below_size (by repeat (first | (with_reducible first | exact HB.out | apply ba_ | apply bn_ | apply bd_ | apply bs_ GE898 | apply bs_ GE899 | apply bs_ GE900) | exact HB.out)))); replace BK898 := Aside0.mk (bb_ BK898.out hb); replace BK899 := Aside0.mk (bb_ BK899.out hb); replace BK900 := Aside0.mk (bb_ BK900.out hb); replace HB := Aside0.mk (below_step (by repeat (first | (with_reducible first | exact HB.out | apply ba_ | apply bn_ | apply bd_ | apply bs_ GE898 | apply bs_ GE899 | apply bs_ GE900) | exact HB.out)) hb); (try clear hb); (try clear hb2); (try clear hk); (try clear hi); (try clear ho0); (try clear ho1)) | ((with_reducible refine gate_dst (N := 5) rfl ?_); refine box_event ?hg (N := 5) ?hd (cs := #[.int .i64 0, .slice none 0 0, .int .i64 0, .int .i64 0, .slice none 0 0]) (t := 75) ?hr ?_; (case hd => rfl); (case hg => rfl); (case hr => first | (go_simp; done) | (go_simp; rfl)); intro gb910 hg w12 hbox hb; replace HO904 := Aside0.mk (Kd.R_below (rp_ HO904.out) hb); replace HO909 := Aside0.mk (Kd.S_below (sp_ HO909.out) hb); have BK910 := Aside0.mk (hbox); have GW910 := Aside0.mk ((by rw [hg]; exact (below_size (by repeat (first | (with_reducible first | exact HB.out | apply ba_ | apply bn_ | apply bd_ | apply bs_ GE898 | apply bs_ GE899 | apply bs_ GE900) | exact HB.out))) : w.heap.size ≤ gb910)); replace HB := Aside0.mk (below_step (by repeat (first | (with_reducible first | exact HB.out | apply ba_ | apply bn_ | apply bd_ | apply bs_ GE898 | apply bs_ GE899 | apply bs_ GE900) | exact HB.out)) hb); have GE910 := GW910; have NB898_910 := Aside0.mk (nl_ BK898.out hg); replace BK898 := Aside0.mk (bb_ BK898.out hb); have NB910_898 := Aside0.mk (NB898_910.out.symm); have NB899_910 := Aside0.mk (nl_ BK899.out hg); replace BK899 := Aside0.mk (bb_ BK899.out hb); have NB910_899 := Aside0.mk (NB899_910.out.symm); have NB900_910 := Aside0.mk (nl_ BK900.out hg); replace BK900 := Aside0.mk (bb_ BK900.out hb); have NB910_900 := Aside0.mk (NB900_910.out.symm); clear hb hbox hg; have hnb13 := NB910_898.out; have hnc13 := NB898_910.out; have hnb14 := NB910_899.out; have hnc14 := NB899_910.out; have hnb15 := NB910_900.out; have hnc15 := NB900_910.out; obtain ⟨hcz16_0, hcz16_1, hcz16_2, hcz16_3, hcz16_4, hfz16_0, hfz16_1, hfz16_2, hfz16_3, hfz16_4⟩ := bc5_ BK910.out; obtain ⟨Ao17, co17, eo17⟩ := Kd.R_slice HO904.out; subst eo17; obtain ⟨Ao18, co18, eo18⟩ := Kd.S_slice HO909.out; subst eo18; have hnb19 := NB899_900.out; have hnc19 := NB900_899.out; obtain ⟨hcz20_0, hcz20_1, hcz20_2, hcz20_3, hfz20_0, hfz20_1, hfz20_2, hfz20_3⟩ := bc4_ BK899.out) | ((with_reducible refine gate_callee (f := 94) rfl ?_); refine goesL_ (some 12) rfl rfl Try.func94 (by kernel_rfl) rfl #[.agg #[.slice A1_0 l1_0.length c1_0, .int .i64 a1_1, .int .i64 a1_2, .string a1_3]] rfl (by (try simp only [mp_]); first | done | rfl | (simp only [List.length_drop, List.length_take]; rfl)) ?_; (with_reducible refine (spec_l4Copy.calls _ _ l1_0 a1_1 a1_2 a1_3 t911 t914 t915 t916 _ ?side1 ?side2 A4.out).mono ?_); (case side1 => exact Kd.C_below HR1_0.out (by repeat (first | (with_reducible first | exact HB.out | apply ba_ | apply bn_ | apply bd_ | apply bs_ GE898 | apply bs_ GE899 | apply bs_ GE900 | apply bs_ GE910) | exact HB.out))); (case side2 => exact HC1_0.out); rintro e w21 ⟨v912, rfl, ho0, hb⟩; refine ⟨_, rfl, ?_⟩; obtain ⟨gbz912, hz912⟩ := Kd.R_name ho0; replace HO904 := Aside0.mk (Kd.R_below (Kd.R_ltz hz912 (by (with_reducible repeat (first | apply Kd.R_alloc | apply Kd.R_drewN | apply Kd.R_drew)); exact (Kd.R_mono (Kd.R_far (p := ⟨gb910, 4, none⟩) (Kd.R_far (p := ⟨gb910, 3, none⟩) (Kd.R_far (p := ⟨gb910, 2, none⟩) (Kd.R_far (p := ⟨gb910, 1, none⟩) (Kd.R_far (p := ⟨gb910, 0, none⟩) (Kd.R_types HO904.out BK910.out (by decide)) (fun _ hk => hk.2) (.int .i64 t901)) (fun _ hk => hk.2) (.slice Ao17 t902.length co17)) (fun _ hk => hk.2) (.int .i64 t905)) (fun _ hk => hk.2) (.int .i64 t906)) (fun _ hk => hk.2) (.slice Ao18 t907.length co18)) (fun _ h_ => h_.1)))) hb); replace HO909 := Aside0.mk (Kd.S_below (Kd.S_ltz hz912 (by (with_reducible repeat (first | apply Kd.S_alloc | apply Kd.S_drewN | apply Kd.S_drew)); exact (Kd.S_mono (Kd.S_far (p := ⟨gb910, 4, none⟩) (Kd.S_far (p := ⟨gb910, 3, none⟩) (Kd.S_far (p := ⟨gb910, 2, none⟩) (Kd.S_far (p := ⟨gb910, 1, none⟩) (Kd.S_far (p := ⟨gb910, 0, none⟩) (Kd.S_types HO909.out BK910.out (by decide)) (fun _ hk => hk.2) (.int .i64 t901)) (fun _ hk => hk.2) (.slice Ao17 t902.length co17)) (fun _ hk => hk.2) (.int .i64 t905)) (fun _ hk => hk.2) (.int .i64 t906)) (fun _ hk => hk.2) (.slice Ao18 t907.length co18)) (fun _ h_ => h_.1)))) hb); have HO913 := Aside0.mk (Kd.R_lower (Kd.R_gez hz912 ho0) (below_size (by repeat (first | (with_reducible first | exact HB.out | apply ba_ | apply bn_ | apply bd_ | apply bs_ GE898 | apply bs_ GE899 | apply bs_ GE900 | apply bs_ GE910) | exact HB.out)))); replace BK898 := Aside0.mk (blk_below (g := gb898) (o := .cells #[.int .i64 a0_0, .slice A0_1 l0_1.length c0_1, .int .i64 a0_2, .int .i64 a0_3, .slice A0_4 l0_4.length c0_4] 75 (0, 0)) (by (with_reducible repeat (first | refine kn_ ?_ _ | refine kd_ ?_ | refine ka_ ?_ _)); refine blk_far ?_ NB898_910.out _; (with_reducible repeat (first | refine kn_ ?_ _ | refine kd_ ?_ | refine ka_ ?_ _)); refine blk_far ?_ NB898_910.out _; (with_reducible repeat (first | refine kn_ ?_ _ | refine kd_ ?_ | refine ka_ ?_ _)); refine blk_far ?_ NB898_910.out _; (with_reducible repeat (first | refine kn_ ?_ _ | refine kd_ ?_ | refine ka_ ?_ _)); refine blk_far ?_ NB898_910.out _; (with_reducible repeat (first | refine kn_ ?_ _ | refine kd_ ?_ | refine ka_ ?_ _)); refine blk_far ?_ NB898_910.out _; (with_reducible repeat (first | refine kn_ ?_ _ | refine kd_ ?_ | refine ka_ ?_ _)); exact BK898.out) hb); replace BK899 := Aside0.mk (blk_below (g := gb899) (o := .cells #[.slice A1_0 l1_0.length c1_0, .int .i64 a1_1, .int .i64 a1_2, .string a1_3] 44 (0, 0)) (by (with_reducible repeat (first | refine kn_ ?_ _ | refine kd_ ?_ | refine ka_ ?_ _)); refine blk_far ?_ NB899_910.out _; (with_reducible repeat (first | refine kn_ ?_ _ | refine kd_ ?_ | refine ka_ ?_ _)); refine blk_far ?_ NB899_910.out _; (with_reducible repeat (first | refine kn_ ?_ _ | refine kd_ ?_ | refine ka_ ?_ _)); refine blk_far ?_ NB899_910.out _; (with_reducible repeat (first | refine kn_ ?_ _ | refine kd_ ?_ | refine ka_ ?_ _)); refine blk_far ?_ NB899_910.out _; (with_reducible repeat (first | refine kn_ ?_ _ | refine kd_ ?_ | refine ka_ ?_ _)); refine blk_far ?_ NB899_910.out _; (with_reducible repeat (first | refine kn_ ?_ _ | refine kd_ ?_ | refine ka_ ?_ _)); exact BK899.out) hb); replace BK900 := Aside0.mk (blk_below (g := gb900) (o := .cells #[.int .i64 0, .slice none 0 0, .int .i64 0, .int .i64 0, .slice none 0 0] 75 (0, 0)) (by (with_reducible repeat (first | refine kn_ ?_ _ | refine kd_ ?_ | refine ka_ ?_ _)); refine blk_far ?_ NB900_910.out _; (with_reducible repeat (first | refine kn_ ?_ _ | refine kd_ ?_ | refine ka_ ?_ _)); refine blk_far ?_ NB900_910.out _; (with_reducible repeat (first | refine kn_ ?_ _ | refine kd_ ?_ | refine ka_ ?_ _)); refine blk_far ?_ NB900_910.out _; (with_reducible repeat (first | refine kn_ ?_ _ | refine kd_ ?_ | refine ka_ ?_ _)); refine blk_far ?_ NB900_910.out _; (with_reducible repeat (first | refine kn_ ?_ _ | refine kd_ ?_ | refine ka_ ?_ _)); refine blk_far ?_ NB900_910.out _; (with_reducible repeat (first | refine kn_ ?_ _ | refine kd_ ?_ | refine ka_ ?_ _)); exact BK900.out) hb); replace BK910 := Aside0.mk (blk_below (g := gb910) (o := .cells #[.int .i64 t901, .slice Ao17 t902.length co17, .int .i64 t905, .int .i64 t906, .slice Ao18 t907.length co18] 75 (0, 0)) (by (with_reducible repeat (first | refine kn_ ?_ _ | refine kd_ ?_ | refine ka_ ?_ _)); refine blk_put (cs := #[.int .i64 t901, .slice Ao17 t902.length co17, .int .i64 t905, .int .i64 t906, .slice none 0 0]) ?_ 4 _ rfl; (with_reducible repeat (first | refine kn_ ?_ _ | refine kd_ ?_ | refine ka_ ?_ _)); refine blk_put (cs := #[.int .i64 t901, .slice Ao17 t902.length co17, .int .i64 t905, .int .i64 0, .slice none 0 0]) ?_ 3 _ rfl; (with_reducible repeat (first | refine kn_ ?_ _ | refine kd_ ?_ | refine ka_ ?_ _)); refine blk_put (cs := #[.int .i64 t901, .slice Ao17 t902.length co17, .int .i64 0, .int .i64 0, .slice none 0 0]) ?_ 2 _ rfl; (with_reducible repeat (first | refine kn_ ?_ _ | refine kd_ ?_ | refine ka_ ?_ _)); refine blk_put (cs := #[.int .i64 t901, .slice none 0 0, .int .i64 0, .int .i64 0, .slice none 0 0]) ?_ 1 _ rfl; (with_reducible repeat (first | refine kn_ ?_ _ | refine kd_ ?_ | refine ka_ ?_ _)); refine blk_put (cs := #[.int .i64 0, .slice none 0 0, .int .i64 0, .int .i64 0, .slice none 0 0]) ?_ 0 _ rfl; (with_reducible repeat (first | refine kn_ ?_ _ | refine kd_ ?_ | refine ka_ ?_ _)); exact BK910.out) hb); replace HB := Aside0.mk (below_step (by repeat (first | (with_reducible first | exact HB.out | apply ba_ | apply bn_ | apply bd_ | apply bs_ GE898 | apply bs_ GE899 | apply bs_ GE900 | apply bs_ GE910) | exact HB.out)) hb); (try clear hb); (try clear hb2); (try clear hk); (try clear hi); (try clear ho0)) | ((with_reducible refine gate_dst (N := 6) rfl ?_); refine box_event ?hg (N := 6) ?hd (cs := #[.slice none 0 0, .int .i64 0, .int .i64 0, .string (⟨#[]⟩ : ByteArray)]) (t := 44) ?hr ?_; (case hd => rfl); (case hg => rfl); (case hr => first | (go_simp; done) | (go_simp; rfl)); intro gb917 hg w22 hbox hb; replace HO904 := Aside0.mk (Kd.R_below (rp_ HO904.out) hb); replace HO909 := Aside0.mk (Kd.S_below (Kd.S_elderB (sp_ HO909.out) gb917 (Nat.le_of_eq hg.symm)) hb); replace HO913 := Aside0.mk (Kd.R_below (rp_ HO913.out) hb); have BK917 := Aside0.mk (hbox); have GW917 := Aside0.mk ((by rw [hg]; exact (below_size (by repeat (first | (with_reducible first | exact HB.out | apply ba_ | apply bn_ | apply bd_ | apply bs_ GE898 | apply bs_ GE899 | apply bs_ GE900 | apply bs_ GE910) | exact HB.out))) : w.heap.size ≤ gb917)); have GE917 := Aside0.mk ((by rw [hg]; exact (below_size (by repeat (first | (with_reducible first | exact HB.out | apply ba_ | apply bn_ | apply bd_ | apply bs_ GE898 | apply bs_ GE899 | apply bs_ GE900 | apply bs_ GE910) | exact HB.out))) : w.heap.size ≤ gb917)); replace HB := Aside0.mk (below_step (by repeat (first | (with_reducible first | exact HB.out | apply ba_ | apply bn_ | apply bd_ | apply bs_ GE898 | apply bs_ GE899 | apply bs_ GE900 | apply bs_ GE910) | exact HB.out)) hb); have NB898_917 := Aside0.mk (nl_ BK898.out hg); replace BK898 := Aside0.mk (bb_ BK898.out hb); have NB917_898 := Aside0.mk (NB898_917.out.symm); have NB899_917 := Aside0.mk (nl_ BK899.out hg); replace BK899 := Aside0.mk (bb_ BK899.out hb); have NB917_899 := Aside0.mk (NB899_917.out.symm); have NB900_917 := Aside0.mk (nl_ BK900.out hg); replace BK900 := Aside0.mk (bb_ BK900.out hb); have NB917_900 := Aside0.mk (NB900_917.out.symm); have NB910_917 := Aside0.mk (nl_ BK910.out hg); replace BK910 := Aside0.mk (bb_ BK910.out hb); have NB917_910 := Aside0.mk (NB910_917.out.symm); clear hb hbox hg; obtain ⟨Ao23, co23, eo23⟩ := Kd.R_slice HO913.out; subst eo23; have hnb24 := NB917_898.out; have hnc24 := NB898_917.out; have hnb25 := NB917_899.out; have hnc25 := NB899_917.out; have hnb26 := NB917_900.out; have hnc26 := NB900_917.out; have hnb27 := NB917_910.out; have hnc27 := NB910_917.out; obtain ⟨hcz28_0, hcz28_1, hcz28_2, hcz28_3, hfz28_0, hfz28_1, hfz28_2, hfz28_3⟩ := bc4_ BK917.out))
 go_loopg [7] k (fun kq v7 w' => ∃ (x7_1 : Int) (x901000_1 : Int) (x901002_1 : Int) (x901003_1 : Int) (x911004_1 : List (S44)) (u911004 : Value), v7 = .int .i64 x7_1 ∧ Aside0 (spec_JoinIn.l0 kq x7_1 a0_0 l0_1 a0_2 a0_3 l0_4 l1_0 a1_1 a1_2 a1_3 t901 t902 t905 t906 x911004_1 t911 t914 t915 t916 = some (r1, r2, r3, r4, r5)) ∧ Aside0 (kq ≤ k) ∧ Aside0 (Kd.R k164 164 w' w.heap.size (fun k_ => some k_ ≠ ((.slice Ao23 t911.length co23) : Value).ownBlock) (.slice Ao17 t902.length co17) t902) ∧ Aside0 (Kd.S k44 44 w' w.heap.size (fun k_ => some k_ ≠ ((.slice Ao17 t902.length co17) : Value).ownBlock ∧ some k_ ≠ ((.slice Ao23 t911.length co23) : Value).ownBlock ∧ k_ ≠ gb899 ∧ k_ ≠ gb917) u911004 x911004_1) ∧ Aside0 (Kd.R k164 164 w' w.heap.size (fun k_ => some k_ ≠ ((.slice Ao17 t902.length co17) : Value).ownBlock) (.slice Ao23 t911.length co23) t911) ∧ Aside0 (w'.heap[gb898]? = some (.cells #[.int .i64 a0_0, (.slice A0_1 l0_1.length c0_1), .int .i64 a0_2, .int .i64 a0_3, (.slice A0_4 l0_4.length c0_4)] 75 (0, 0))) ∧ Aside0 (w'.heap[gb899]? = some (.cells #[(.slice A1_0 l1_0.length c1_0), .int .i64 a1_1, .int .i64 a1_2, .string a1_3] 44 (0, 0))) ∧ Aside0 (w'.heap[gb900]? = some (.cells #[.int .i64 x901000_1, (.slice none 0 0), .int .i64 x901002_1, .int .i64 x901003_1, (.slice none 0 0)] 75 (0, 0))) ∧ Aside0 (w'.heap[gb910]? = some (.cells #[.int .i64 t901, (.slice Ao17 t902.length co17), .int .i64 t905, .int .i64 t906, u911004] 75 (0, 0))) ∧ Aside0 (w'.heap[gb917]? = some (.cells #[(.slice Ao23 t911.length co23), .int .i64 t914, .int .i64 t915, .string t916] 44 (0, 0))) ∧ Aside0 (Below w.heap.size w w'))
 case atStart => exact ⟨(0), (0), (0), (0), (t907), (.slice Ao18 t907.length co18), (by first | rfl | (simp; done) | (simp [*]; done)), H', ⟨Nat.le_refl _⟩, ⟨by (with_reducible repeat (first | apply Kd.R_alloc | apply Kd.R_drewN | apply Kd.R_drew)); exact Kd.R_mono (Kd.R_far (p := ⟨gb917, 3, none⟩) (Kd.R_far (p := ⟨gb917, 2, none⟩) (Kd.R_far (p := ⟨gb917, 1, none⟩) (Kd.R_far (p := ⟨gb917, 0, none⟩) (Kd.R_types (Kd.R_times HO904.out HO913.out.1 (fun k_ hk hz_ => Nat.lt_irrefl _ (Nat.lt_of_lt_of_le hk.2 hz_.2))) BK917.out (by decide)) (fun _ hk => hk.2) (.slice Ao23 t911.length co23)) (fun _ hk => hk.2) (.int .i64 t914)) (fun _ hk => hk.2) (.int .i64 t915)) (fun _ hk => hk.2) (.string t916)) (fun _ hk => hk.1.2)⟩, ⟨by (with_reducible repeat (first | apply Kd.S_alloc | apply Kd.S_drewN | apply Kd.S_drew)); exact Kd.S_mono (Kd.S_far (p := ⟨gb917, 3, none⟩) (Kd.S_far (p := ⟨gb917, 2, none⟩) (Kd.S_far (p := ⟨gb917, 1, none⟩) (Kd.S_far (p := ⟨gb917, 0, none⟩) (Kd.S_mono (Kd.S_times HO909.out HO913.out.1 (fun k_ hk hz_ => Nat.lt_irrefl _ (Nat.lt_of_lt_of_le hk.1.2 hz_.2))) (fun k_ hk => (⟨hk, hk.1.2⟩ : _ ∧ k_ ≠ gb917))) (fun _ hk => hk.2) (.slice Ao23 t911.length co23)) (fun _ hk => hk.2) (.int .i64 t914)) (fun _ hk => hk.2) (.int .i64 t915)) (fun _ hk => hk.2) (.string t916)) (fun _ hk => ⟨hk.1.1.1.1.1.1, ⟨hk.1.2, ⟨hk.1.1.1.1.2, hk.1.1.2⟩⟩⟩)⟩, ⟨by (with_reducible repeat (first | apply Kd.R_alloc | apply Kd.R_drewN | apply Kd.R_drew)); exact Kd.R_mono (Kd.R_far (p := ⟨gb917, 3, none⟩) (Kd.R_far (p := ⟨gb917, 2, none⟩) (Kd.R_far (p := ⟨gb917, 1, none⟩) (Kd.R_far (p := ⟨gb917, 0, none⟩) (Kd.R_types (Kd.R_times HO913.out HO904.out.1 (fun k_ hk hz_ => Nat.lt_irrefl _ (Nat.lt_of_lt_of_le hz_.2 hk.2))) BK917.out (by decide)) (fun _ hk => hk.2) (.slice Ao23 t911.length co23)) (fun _ hk => hk.2) (.int .i64 t914)) (fun _ hk => hk.2) (.int .i64 t915)) (fun _ hk => hk.2) (.string t916)) (fun _ hk => hk.1.2)⟩, ⟨by (with_reducible repeat (first | refine kn_ ?_ _ | refine kd_ ?_ | refine ka_ ?_ _)); refine blk_far ?_ NB898_917.out _; (with_reducible repeat (first | refine kn_ ?_ _ | refine kd_ ?_ | refine ka_ ?_ _)); refine blk_far ?_ NB898_917.out _; (with_reducible repeat (first | refine kn_ ?_ _ | refine kd_ ?_ | refine ka_ ?_ _)); refine blk_far ?_ NB898_917.out _; (with_reducible repeat (first | refine kn_ ?_ _ | refine kd_ ?_ | refine ka_ ?_ _)); refine blk_far ?_ NB898_917.out _; (with_reducible repeat (first | refine kn_ ?_ _ | refine kd_ ?_ | refine ka_ ?_ _)); exact BK898.out⟩, ⟨by (with_reducible repeat (first | refine kn_ ?_ _ | refine kd_ ?_ | refine ka_ ?_ _)); refine blk_far ?_ NB899_917.out _; (with_reducible repeat (first | refine kn_ ?_ _ | refine kd_ ?_ | refine ka_ ?_ _)); refine blk_far ?_ NB899_917.out _; (with_reducible repeat (first | refine kn_ ?_ _ | refine kd_ ?_ | refine ka_ ?_ _)); refine blk_far ?_ NB899_917.out _; (with_reducible repeat (first | refine kn_ ?_ _ | refine kd_ ?_ | refine ka_ ?_ _)); refine blk_far ?_ NB899_917.out _; (with_reducible repeat (first | refine kn_ ?_ _ | refine kd_ ?_ | refine ka_ ?_ _)); exact BK899.out⟩, ⟨by (with_reducible repeat (first | refine kn_ ?_ _ | refine kd_ ?_ | refine ka_ ?_ _)); refine blk_far ?_ NB900_917.out _; (with_reducible repeat (first | refine kn_ ?_ _ | refine kd_ ?_ | refine ka_ ?_ _)); refine blk_far ?_ NB900_917.out _; (with_reducible repeat (first | refine kn_ ?_ _ | refine kd_ ?_ | refine ka_ ?_ _)); refine blk_far ?_ NB900_917.out _; (with_reducible repeat (first | refine kn_ ?_ _ | refine kd_ ?_ | refine ka_ ?_ _)); refine blk_far ?_ NB900_917.out _; (with_reducible repeat (first | refine kn_ ?_ _ | refine kd_ ?_ | refine ka_ ?_ _)); exact BK900.out⟩, ⟨by (with_reducible repeat (first | refine kn_ ?_ _ | refine kd_ ?_ | refine ka_ ?_ _)); refine blk_far ?_ NB910_917.out _; (with_reducible repeat (first | refine kn_ ?_ _ | refine kd_ ?_ | refine ka_ ?_ _)); refine blk_far ?_ NB910_917.out _; (with_reducible repeat (first | refine kn_ ?_ _ | refine kd_ ?_ | refine ka_ ?_ _)); refine blk_far ?_ NB910_917.out _; (with_reducible repeat (first | refine kn_ ?_ _ | refine kd_ ?_ | refine ka_ ?_ _)); refine blk_far ?_ NB910_917.out _; (with_reducible repeat (first | refine kn_ ?_ _ | refine kd_ ?_ | refine ka_ ?_ _)); exact BK910.out⟩, ⟨by (with_reducible repeat (first | refine kn_ ?_ _ | refine kd_ ?_ | refine ka_ ?_ _)); refine blk_put (cs := #[.slice Ao23 t911.length co23, .int .i64 t914, .int .i64 t915, .string (⟨#[]⟩ : ByteArray)]) ?_ 3 _ rfl; (with_reducible repeat (first | refine kn_ ?_ _ | refine kd_ ?_ | refine ka_ ?_ _)); refine blk_put (cs := #[.slice Ao23 t911.length co23, .int .i64 t914, .int .i64 0, .string (⟨#[]⟩ : ByteArray)]) ?_ 2 _ rfl; (with_reducible repeat (first | refine kn_ ?_ _ | refine kd_ ?_ | refine ka_ ?_ _)); refine blk_put (cs := #[.slice Ao23 t911.length co23, .int .i64 0, .int .i64 0, .string (⟨#[]⟩ : ByteArray)]) ?_ 1 _ rfl; (with_reducible repeat (first | refine kn_ ?_ _ | refine kd_ ?_ | refine ka_ ?_ _)); refine blk_put (cs := #[.slice none 0 0, .int .i64 0, .int .i64 0, .string (⟨#[]⟩ : ByteArray)]) ?_ 0 _ rfl; (with_reducible repeat (first | refine kn_ ?_ _ | refine kd_ ?_ | refine ka_ ?_ _)); exact BK917.out⟩, ⟨by repeat (first | (with_reducible first | exact HB.out | apply ba_ | apply bn_ | apply bd_ | apply bs_ GE898 | apply bs_ GE899 | apply bs_ GE900 | apply bs_ GE910 | apply bs_ GE917) | exact HB.out)⟩⟩
 case round =>
  clear H'
  try clear c1
  try clear c2
  try clear p2
  try clear c5
  try clear c8
  try clear c9
  try clear c11
  try clear c13
  try clear c14
  try clear c15
  try clear c19
  try clear c24
  try clear c25
  try clear c26
  try clear c27
  try clear hcz10_0 hcz10_1 hcz10_2 hcz10_3 hcz10_4
  try clear hcz16_0 hcz16_1 hcz16_2 hcz16_3 hcz16_4
  try clear hcz20_0 hcz20_1 hcz20_2 hcz20_3
  try clear hcz28_0 hcz28_1 hcz28_2 hcz28_3
  try clear hfz10_0 hfz10_1 hfz10_2 hfz10_3 hfz10_4
  try clear hfz16_0 hfz16_1 hfz16_2 hfz16_3 hfz16_4
  try clear hfz20_0 hfz20_1 hfz20_2 hfz20_3
  try clear hfz28_0 hfz28_1 hfz28_2 hfz28_3
  obtain ⟨x7_1, x901000_1, x901002_1, x901003_1, x911004_1, u911004, rfl, HA, HK1, HO_911001, HO_911004, HO_918000, BK898, BK899, BK900, BK910, BK917, HB⟩ := hrel
  cases gk with
  | zero => exact absurd HA.out (by simp [spec_JoinIn.l0])
  | succ k1 =>
   have H := HA.out
   clear HA
   simp only [spec_JoinIn.l0] at H
   by_cases c29 : x7_1 < (l0_4.length : Int)
   ·
    rw [if_pos c29] at H
    have c29b0 := decide_eq_true c29
    clear c29
    by_cases c30 : 0 ≤ x7_1
    ·
     rw [if_pos c30] at H
     have c30b0 := decide_eq_true c30
     clear c30
     replace H := Option.bind_eq_some_iff.mp H
     obtain ⟨t919, A310, H⟩ := H
     have A31 := Aside0.mk A310
     clear A310
     by_cases c32 : t919 = true
     ·
      subst c32
      rw [if_pos rfl] at H
      by_cases c33 : x7_1 < (x911004_1.length : Int)
      ·
       rw [if_pos c33] at H
       have c33b0 := decide_eq_true c33
       clear c33
       obtain ⟨y920, hy920⟩ : ∃ y_ : List (S44), y_ = (x911004_1.set (x7_1 : Int).toNat (⟨t911, t914, t915, t916⟩ : S44)) := ⟨_, rfl⟩
       replace H : (some (t901, t902, t905, t906, y920)) = some (r1, r2, r3, r4, r5) := by first | (rw [hy920]; with_reducible exact H) | (have H2_ := (Option.bind_some _ _).symm.trans H; rw [hy920]; with_reducible exact H2_) | (have H2_ := (Option.bind_some _ _).symm.trans H; with_reducible exact H2_) | with_reducible exact H | (rw [hy920]; exact H) | exact H
       have Ny920 := Aside0.mk hy920
       clear hy920
       simp only [Option.some.injEq, Prod.mk.injEq] at H
       obtain ⟨rfl, rfl, rfl, rfl, rfl⟩ := H
       have hnb35 := NB898_899.out
       have hnc35 := NB899_898.out
       have hnb36 := NB898_900.out
       have hnc36 := NB900_898.out
       have hnb37 := NB898_910.out
       have hnc37 := NB910_898.out
       have hnb38 := NB898_917.out
       have hnc38 := NB917_898.out
       obtain ⟨hcz39_0, hcz39_1, hcz39_2, hcz39_3, hcz39_4, hfz39_0, hfz39_1, hfz39_2, hfz39_3, hfz39_4⟩ := bc5_ BK898.out
       try go_wp2
       replace HO_911001 := Aside0.mk (Kd.R_drew HO_911001.out)
       replace HO_911004 := Aside0.mk (Kd.S_drew HO_911004.out)
       replace HO_918000 := Aside0.mk (Kd.R_drew HO_918000.out)
       replace BK898 := Aside0.mk (blk_drew BK898.out)
       replace BK899 := Aside0.mk (blk_drew BK899.out)
       replace BK900 := Aside0.mk (blk_drew BK900.out)
       replace BK910 := Aside0.mk (blk_drew BK910.out)
       replace BK917 := Aside0.mk (blk_drew BK917.out)
       replace HB := Aside0.mk (bd_ HB.out)
       have p918 : 0 ≤ (x7_1 : Int) := of_decide_eq_true (by with_reducible assumption)
       have q918 : x7_1 < (l0_4.length : Int) := of_decide_eq_true (by with_reducible assumption)
       obtain ⟨ad918, A918_0, c918_0, e918, hx918_0, hx918_1, hx918_2, hx918_3, hl918_0, hi918_0⟩ := at_T44 HR0_4.out x7_1 p918 q918
       have hw918_3 := hx918_3
       have hw918_2 := hx918_2
       have hw918_1 := hx918_1
       have hw918_0 := hx918_0
       cases e918
       replace hx918_0 := cl_ HB.out hx918_0
       replace hx918_1 := cl_ HB.out hx918_1
       replace hx918_2 := cl_ HB.out hx918_2
       replace hx918_3 := cl_ HB.out hx918_3
       have HR918_0 := Aside0.mk hi918_0
       have HC918_0 := Aside0.mk hl918_0
       clear hi918_0 hl918_0
       replace p918 := eq_true p918
       replace q918 := eq_true q918
       refine start_ (n := 9) (S := fun w' => w'.cell? ⟨gb898, 0, none⟩ = some (.int .i64 a0_0) ∧ w'.cell? ⟨gb898, 1, none⟩ = some (.slice A0_1 l0_1.length c0_1) ∧ w'.cell? ⟨gb898, 2, none⟩ = some (.int .i64 a0_2) ∧ w'.cell? ⟨gb898, 3, none⟩ = some (.int .i64 a0_3) ∧ w'.cell? ⟨gb898, 4, none⟩ = some (.slice (some ad918) l0_4.length c0_4) ∧ w'.cell? ⟨gb899, 0, none⟩ = some (.slice A1_0 l1_0.length c1_0) ∧ w'.cell? ⟨gb899, 1, none⟩ = some (.int .i64 a1_1) ∧ w'.cell? ⟨gb899, 2, none⟩ = some (.int .i64 a1_2) ∧ w'.cell? ⟨gb899, 3, none⟩ = some (.string a1_3) ∧ w'.cell? (ad918.add ((x7_1).toNat * 4)) = some (.slice A918_0 ((rd_T44 l0_4 x7_1).f0).length c918_0) ∧ w'.cell? ⟨(ad918.add ((x7_1).toNat * 4)).block, (ad918.add ((x7_1).toNat * 4)).off + 1, none⟩ = some (.int .i64 ((rd_T44 l0_4 x7_1).f1)) ∧ w'.cell? ⟨(ad918.add ((x7_1).toNat * 4)).block, (ad918.add ((x7_1).toNat * 4)).off + 2, none⟩ = some (.int .i64 ((rd_T44 l0_4 x7_1).f2)) ∧ w'.cell? ⟨(ad918.add ((x7_1).toNat * 4)).block, (ad918.add ((x7_1).toNat * 4)).off + 3, none⟩ = some (.string ((rd_T44 l0_4 x7_1).f3))) (ds := []) #[f_,f_,f_,f_,f_,f_,f_,f_,f_] (by kernel_rfl) rfl rfl ⟨bx_ BK898.out 0, bx_ BK898.out 1, bx_ BK898.out 2, bx_ BK898.out 3, bx_ BK898.out 4, bx_ BK899.out 0, bx_ BK899.out 1, bx_ BK899.out 2, bx_ BK899.out 3, ((HB.out.cell (World.block_lt_of_cell? w _ hw918_0)).trans hw918_0), ((HB.out.cell (World.block_lt_of_cell? w _ hw918_1)).trans hw918_1), ((HB.out.cell (World.block_lt_of_cell? w _ hw918_2)).trans hw918_2), ((HB.out.cell (World.block_lt_of_cell? w _ hw918_3)).trans hw918_3)⟩ (fun hHeld => ?_); refine with_tabW spec_JoinIn.tab6 spec_JoinIn.bits6 (fun HT_ HW_ => ?_)
       generalize wr.drew = w40 at HO_911001 HO_911004 HO_918000 BK898 BK899 BK900 BK910 BK917 HB HR918_0 hx918_0 hx918_1 hx918_2 hx918_3 hHeld ⊢
       refine pu_ 0 20 ?_ (b_ 1 8) rfl rfl HT_.out ?_ ?_ ?_ ?_; rotate_left; intro w'; go_simp; with_reducible rfl; rotate_left; simp only [fr_]; rfl
       refine pu_ 2 22 ?_ #[t_,f_,t_,f_,f_,f_,f_,f_,f_] rfl rfl HT_.out ?_ ?_ ?_ ?_; rotate_left; intro w'; go_simp; with_reducible rfl; rotate_left; simp only [fr_]; rfl
       refine pu_ 6 26 ?_ #[t_,f_,t_,f_,f_,f_,t_,f_,f_] rfl rfl HT_.out ?_ ?_ ?_ ?_; rotate_left; intro w'; go_simp; with_reducible rfl; rotate_left; simp only [fr_]; rfl
       refine take_ (i := 1) (N := some 21) (v := ?_) (a' := ?_) #[t_,t_,t_,f_,f_,f_,t_,f_,f_] rfl rfl (take_ofW HT_.out HW_.out (by kernel_rfl)) (fun _ _ _ h => h) (Or.inl ⟨by rfl, ?_⟩) hHeld ?_ ?_
       rotate_left
       ·
        rintro w' ⟨s0, s1, s2, s3, s4, s5, s6, s7, s8, s9, s10, s11, s12⟩
        go_simp
        with_reducible rfl
       rotate_left
       ·
        simp only [fr_]
        rfl
       refine pu_ 3 23 ?_ #[t_,t_,t_,t_,f_,f_,t_,f_,f_] rfl rfl HT_.out ?_ ?_ ?_ ?_; rotate_left; intro w'; go_simp; with_reducible rfl; rotate_left; simp only [fr_]; rfl
       refine pu_ 4 24 ?_ #[t_,t_,t_,t_,t_,f_,t_,f_,f_] rfl rfl HT_.out ?_ ?_ ?_ ?_; rotate_left; intro w'; go_simp; with_reducible rfl; rotate_left; simp only [fr_]; rfl
       refine take_ (i := 5) (N := some 25) (v := ?_) (a' := ?_) #[t_,t_,t_,t_,t_,t_,t_,f_,f_] rfl rfl (take_ofW HT_.out HW_.out (by kernel_rfl)) (fun _ _ _ h => h) (Or.inl ⟨by rfl, ?_⟩) hHeld ?_ ?_
       rotate_left
       ·
        rintro w' ⟨s0, s1, s2, s3, s4, s5, s6, s7, s8, s9, s10, s11, s12⟩
        go_simp
        with_reducible rfl
       rotate_left
       ·
        simp only [fr_]
        rfl
       refine take_ (i := 7) (N := some 27) (v := ?_) (a' := ?_) #[t_,t_,t_,t_,t_,t_,t_,t_,f_] rfl rfl (take_ofW HT_.out HW_.out (by kernel_rfl)) (fun _ _ _ h => h) (Or.inl ⟨by rfl, ?_⟩) hHeld ?_ ?_
       rotate_left
       ·
        rintro w' ⟨s0, s1, s2, s3, s4, s5, s6, s7, s8, s9, s10, s11, s12⟩
        go_simp
        with_reducible rfl
       rotate_left
       ·
        simp only [fr_]
        rfl
       refine one_ (i := 8) (N := some 28) #[t_,t_,t_,t_,t_,t_,t_,t_,t_] rfl rfl (one_of HT_.out (by kernel_rfl)) (by decide) (fun K hK => ?_)
       refine goes_ Try.func106 (by kernel_rfl) rfl #[.slice A918_0 ((rd_T44 l0_4 x7_1).f0).length c918_0, .slice A1_0 l1_0.length c1_0] (by rfl) rfl rfl (by (try simp only [mp_]); first | done | rfl | (simp only [List.length_drop, List.length_take]; rfl)) ?_
       with_reducible refine (spec_SameSet.calls k1 _ _ ((rd_T44 l0_4 x7_1).f0) _ _ l1_0 true _ ?side1 ?side2 ?side3 ?side4 A31.out).mono ?_
       (case side1 => exact cp_ ((Kd.C_below HR918_0.out HB.out)))
       (case side2 => exact HC918_0.out)
       (case side3 => exact cp_ ((Kd.C_below HR1_0.out HB.out)))
       (case side4 => exact HC1_0.out)
       rintro e w' ⟨rfl, ⟨nd, rfl⟩⟩
       refine ⟨_, rfl, ?_⟩
       refine hK.out _ _ ⟨bx_ BK898.out 0, bx_ BK898.out 1, bx_ BK898.out 2, bx_ BK898.out 3, bx_ BK898.out 4, bx_ BK899.out 0, bx_ BK899.out 1, bx_ BK899.out 2, bx_ BK899.out 3, ((HB.out.cell (World.block_lt_of_cell? w _ hw918_0)).trans hw918_0), ((HB.out.cell (World.block_lt_of_cell? w _ hw918_1)).trans hw918_1), ((HB.out.cell (World.block_lt_of_cell? w _ hw918_2)).trans hw918_2), ((HB.out.cell (World.block_lt_of_cell? w _ hw918_3)).trans hw918_3)⟩ (fun hHeld => ?_)
       clear hK K
       refine norm_ (a' := ?_) ?_ ?_
       rotate_left
       ·
        show Act.put _ (some 28) _ = _
        simp only [fr_]
        rfl
       refine done_ (done_of HT_.out (by kernel_rfl)) ?_
       (try (rw [drewN_self w40]; generalize hq_ : World.drewN w40 _ = w40; replace HO_911001 : Aside0 (Kd.R k164 164 w40 w.heap.size (fun k_ => some k_ ≠ (.slice Ao23 t911.length co23 : Value).ownBlock) (.slice Ao17 t902.length co17) t902) := ⟨by rw [← hq_]; exact (rp_ HO_911001.out)⟩; replace HO_911004 : Aside0 (Kd.S k44 44 w40 w.heap.size (fun k_ => some k_ ≠ (.slice Ao17 t902.length co17 : Value).ownBlock ∧ some k_ ≠ (.slice Ao23 t911.length co23 : Value).ownBlock ∧ k_ ≠ gb899 ∧ k_ ≠ gb917) u911004 x911004_1) := ⟨by rw [← hq_]; exact (sp_ HO_911004.out)⟩; replace HO_918000 : Aside0 (Kd.R k164 164 w40 w.heap.size (fun k_ => some k_ ≠ (.slice Ao17 t902.length co17 : Value).ownBlock) (.slice Ao23 t911.length co23) t911) := ⟨by rw [← hq_]; exact (rp_ HO_918000.out)⟩; replace BK898 : Aside0 (w40.heap[gb898]? = some (.cells #[.int .i64 a0_0, .slice A0_1 l0_1.length c0_1, .int .i64 a0_2, .int .i64 a0_3, .slice (some ad918) l0_4.length c0_4] 75 (0, 0))) := ⟨by rw [← hq_]; exact (pb_ BK898.out)⟩; replace BK899 : Aside0 (w40.heap[gb899]? = some (.cells #[.slice A1_0 l1_0.length c1_0, .int .i64 a1_1, .int .i64 a1_2, .string a1_3] 44 (0, 0))) := ⟨by rw [← hq_]; exact (pb_ BK899.out)⟩; replace BK900 : Aside0 (w40.heap[gb900]? = some (.cells #[.int .i64 x901000_1, .slice none 0 0, .int .i64 x901002_1, .int .i64 x901003_1, .slice none 0 0] 75 (0, 0))) := ⟨by rw [← hq_]; exact (pb_ BK900.out)⟩; replace BK910 : Aside0 (w40.heap[gb910]? = some (.cells #[.int .i64 t901, .slice Ao17 t902.length co17, .int .i64 t905, .int .i64 t906, u911004] 75 (0, 0))) := ⟨by rw [← hq_]; exact (pb_ BK910.out)⟩; replace BK917 : Aside0 (w40.heap[gb917]? = some (.cells #[.slice Ao23 t911.length co23, .int .i64 t914, .int .i64 t915, .string t916] 44 (0, 0))) := ⟨by rw [← hq_]; exact (pb_ BK917.out)⟩; replace HB : Aside0 (Below w.heap.size w w40) := ⟨by rw [← hq_]; exact (by repeat (first | (with_reducible first | exact HB.out | apply ba_ | apply bn_ | apply bd_ | apply bs_ GE898 | apply bs_ GE899 | apply bs_ GE900 | apply bs_ GE910 | apply bs_ GE917) | exact HB.out))⟩; clear hq_))
       have hnb41 := NB910_899.out
       have hnc41 := NB899_910.out
       have hnb42 := NB910_900.out
       have hnc42 := NB900_910.out
       have hnb43 := NB910_917.out
       have hnc43 := NB917_910.out
       obtain ⟨hcz44_0, hcz44_1, hcz44_2, hcz44_3, hcz44_4, hfz44_0, hfz44_1, hfz44_2, hfz44_3, hfz44_4⟩ := bc5_ BK910.out
       have hnb45 := NB917_899.out
       have hnc45 := NB899_917.out
       have hnb46 := NB917_900.out
       have hnc46 := NB900_917.out
       obtain ⟨hcz47_0, hcz47_1, hcz47_2, hcz47_3, hfz47_0, hfz47_1, hfz47_2, hfz47_3⟩ := bc4_ BK917.out
       have p34 : 0 ≤ (x7_1 : Int) := of_decide_eq_true (by with_reducible assumption)
       have q34 : (x7_1 : Int) < ((x911004_1.length : Int) : Int) := of_decide_eq_true (by with_reducible assumption)
       obtain ⟨go34, co34, eo34, gb34, gl34, cl34, HG34⟩ := Kd.S_form HO_911004.out (by omega)
       (first | cases eo34 | (injection eo34 with ea_ en_ ec_; (first | subst ea_ | (injection ea_ with ea_; subst ea_)); subst ec_; clear en_))
       have GB34 := Aside0.mk gb34
       have GG34 := Aside0.mk HG34
       clear gb34 gl34 HG34
       obtain ⟨_, ce34, hcl34, hM34, hcc34, hfr34, _, _⟩ := Kd.S_elem HO_911004.out z44 (x7_1 : Int) p34 q34
       obtain ⟨ve34_0, rfl, ge34_0⟩ := k44_openM hM34
       have hx34_0 : w40.cell? ⟨go34, (x7_1 : Int).toNat * 4, none⟩ = some (ve34_0) := hcc34 0 _ rfl
       have hx34_1 : w40.cell? ⟨go34, (x7_1 : Int).toNat * 4 + 1, none⟩ = some (.int .i64 ((rd_T44 x911004_1 x7_1).f1)) := hcc34 1 _ rfl
       have hx34_2 : w40.cell? ⟨go34, (x7_1 : Int).toNat * 4 + 2, none⟩ = some (.int .i64 ((rd_T44 x911004_1 x7_1).f2)) := hcc34 2 _ rfl
       have hx34_3 : w40.cell? ⟨go34, (x7_1 : Int).toNat * 4 + 3, none⟩ = some (.string ((rd_T44 x911004_1 x7_1).f3)) := hcc34 3 _ rfl
       have hf34_0 : w40.frozen? ⟨go34, (x7_1 : Int).toNat * 4, none⟩ = false := hfr34 0
       have hf34_1 : w40.frozen? ⟨go34, (x7_1 : Int).toNat * 4 + 1, none⟩ = false := hfr34 1
       have hf34_2 : w40.frozen? ⟨go34, (x7_1 : Int).toNat * 4 + 2, none⟩ = false := hfr34 2
       have hf34_3 : w40.frozen? ⟨go34, (x7_1 : Int).toNat * 4 + 3, none⟩ = false := hfr34 3
       clear hcl34 hcc34 hfr34 hM34
       replace p34 := eq_true p34
       replace q34 := eq_true q34
       have HX48 := Aside0.mk (show Kd.S k44 44 w40 w.heap.size (fun k_ => ((fun k_ => some k_ ≠ (.slice Ao17 t902.length co17 : Value).ownBlock ∧ k_ ≠ gb899 ∧ k_ ≠ gb917)) k_ ∧ ¬ ((fun k_ => some k_ = (.slice Ao23 t911.length co23 : Value).ownBlock)) k_) (.slice (some ⟨go34, 0, none⟩) x911004_1.length co34) x911004_1 from (by (with_reducible repeat (first | apply Kd.S_alloc | apply Kd.S_drewN | apply Kd.S_drew)); exact Kd.S_mono HO_911004.out (fun k_ hk => ⟨⟨hk.1, ⟨hk.2.2.1, hk.2.2.2⟩⟩, fun e_ => hk.2.1 e_⟩)))
       obtain ⟨oki48, ce48, hcl48, hM48, hcc48, hfr48, hoki48, hH48⟩ := Kd.S_elem HX48.out z44 (x7_1 : Int) (of_decide_eq_true (by with_reducible assumption)) (by have h_ : (x7_1 : Int) < ((x911004_1.length : Int) : Int) := of_decide_eq_true (by with_reducible assumption); first | exact h_ | (have e_ := (Kd.S_reads' HO_911004.out).1; omega) | simpa using h_)
       obtain ⟨ve48_0, rfl, ge48_0⟩ := k44_openM hM48
       have HP48 := Kd.S_seg hH48 (of_decide_eq_true (by with_reducible assumption)) (by have h_ : (x7_1 : Int) < ((x911004_1.length : Int) : Int) := of_decide_eq_true (by with_reducible assumption); first | exact h_ | (have e_ := (Kd.S_reads' HO_911004.out).1; omega) | simpa using h_) (seg := [.slice Ao23 t911.length co23, .int .i64 t914, .int .i64 t915, .string t916]) (j := 0) (show 4 ≤ 4 from by decide) (x' := (⟨t911, t914, t915, t916⟩ : S44)) (k44_mkM _ _ _ (⟨t911, t914, t915, t916⟩ : S44) (Kd.R_mono (Kd.R_tight rfl (Kd.R_mono (ok' := fun k_ => ((fun k_ => some k_ ≠ (.slice Ao17 t902.length co17 : Value).ownBlock ∧ k_ ≠ gb899 ∧ k_ ≠ gb917)) k_ ∧ k_ ≠ go34) (Kd.R_types (Kd.R_types (Kd.R_apart' (HO_918000.out) (Kd.S_typed HO_911004.out) (by decide)) BK899.out (by decide)) BK917.out (by decide)) (fun k_ hk => ⟨⟨hk.1.1.1, ⟨hk.1.2, hk.2⟩⟩, fun e_ => (hk.1.1.2) (by rw [e_]; rfl)⟩))) (fun _ h_ => Or.inr (h_)))) (fun _ hk => hk) (fun k_ hk_ => ((Kd.R_mono (ok' := fun k_ => ((fun k_ => some k_ ≠ (.slice Ao17 t902.length co17 : Value).ownBlock ∧ k_ ≠ gb899 ∧ k_ ≠ gb917)) k_ ∧ k_ ≠ go34) (Kd.R_types (Kd.R_types (Kd.R_apart' (HO_918000.out) (Kd.S_typed HO_911004.out) (by decide)) BK899.out (by decide)) BK917.out (by decide)) (fun k_ hk => ⟨⟨hk.1.1.1, ⟨hk.1.2, hk.2⟩⟩, fun e_ => (hk.1.1.2) (by rw [e_]; rfl)⟩))).1 k_ hk_.symm)
       have hx48_0 := hcc48 0 _ rfl
       (try simp only [show (k44).sz = 4 from rfl, Nat.mul_one, Nat.add_zero] at hx48_0)
       have hf48_0 := hfr48 0
       (try simp only [show (k44).sz = 4 from rfl, Nat.mul_one, Nat.add_zero] at hf48_0)
       have hx48_1 := hcc48 1 _ rfl
       (try simp only [show (k44).sz = 4 from rfl, Nat.mul_one, Nat.add_zero] at hx48_1)
       have hf48_1 := hfr48 1
       (try simp only [show (k44).sz = 4 from rfl, Nat.mul_one, Nat.add_zero] at hf48_1)
       have hx48_2 := hcc48 2 _ rfl
       (try simp only [show (k44).sz = 4 from rfl, Nat.mul_one, Nat.add_zero] at hx48_2)
       have hf48_2 := hfr48 2
       (try simp only [show (k44).sz = 4 from rfl, Nat.mul_one, Nat.add_zero] at hf48_2)
       have hx48_3 := hcc48 3 _ rfl
       (try simp only [show (k44).sz = 4 from rfl, Nat.mul_one, Nat.add_zero] at hx48_3)
       have hf48_3 := hfr48 3
       (try simp only [show (k44).sz = 4 from rfl, Nat.mul_one, Nat.add_zero] at hf48_3)
       clear hcl48 hcc48 hfr48 hM48 hoki48 hH48
       try go_wp2_with (first | ((with_reducible refine gate_store (t := 44) (p := 33) rfl ?_); refine store_event (t := 44) (p := 33) (v := ?vo_w49) (w1 := ((((w40.setCell ⟨go34, (x7_1 : Int).toNat * 4, none⟩ (.slice Ao23 t911.length co23)).setCell ⟨go34, (x7_1 : Int).toNat * 4 + 1, none⟩ (.int .i64 t914)).setCell ⟨go34, (x7_1 : Int).toNat * 4 + 2, none⟩ (.int .i64 t915)).setCell ⟨go34, (x7_1 : Int).toNat * 4 + 3, none⟩ (.string t916))) ?hg ?ho ?hn ?hr ?_; (case ho => rfl); (case hg => rfl); (case hn => rfl); (case hr => first | (go_simp; done) | (go_simp; rfl)); intro w49 hw; have hg : w40.grownBy w49 (some go34) := (by rw [hw]; exact HP48.2); have hp_ : Kd.S k44 44 w49 w.heap.size (fun k_ => some k_ ≠ (.slice Ao17 t902.length co17 : Value).ownBlock ∧ k_ ≠ gb899 ∧ k_ ≠ gb917) (.slice (some ⟨go34, 0, none⟩) x911004_1.length co34) y920 := (by rw [hw, Ny920.out]; exact HP48.1); clear HP48; replace HO_911001 := Aside0.mk (Kd.R_over' (v := (.slice (some ⟨go34, 0, none⟩) x911004_1.length co34)) (rp_ HO_911001.out) (Kd.S_typed HO_911004.out) (by decide) hg); replace BK898 := Aside0.mk (blk_grown (g := gb898) (o := .cells #[.int .i64 a0_0, .slice A0_1 l0_1.length c0_1, .int .i64 a0_2, .int .i64 a0_3, .slice (some ad918) l0_4.length c0_4] 75 (0, 0)) (pb_ BK898.out) hg (Kd.S_ne HO_911004.out BK898.out (by decide))); replace BK899 := Aside0.mk (blk_grown (g := gb899) (o := .cells #[.slice A1_0 l1_0.length c1_0, .int .i64 a1_1, .int .i64 a1_2, .string a1_3] 44 (0, 0)) (pb_ BK899.out) hg (Kd.S_away HO_911004.out (fun _ hk => hk.2.2.1))); replace BK900 := Aside0.mk (blk_grown (g := gb900) (o := .cells #[.int .i64 x901000_1, .slice none 0 0, .int .i64 x901002_1, .int .i64 x901003_1, .slice none 0 0] 75 (0, 0)) (pb_ BK900.out) hg (Kd.S_ne HO_911004.out BK900.out (by decide))); replace BK910 := Aside0.mk (blk_grown (g := gb910) (o := .cells #[.int .i64 t901, .slice Ao17 t902.length co17, .int .i64 t905, .int .i64 t906, .slice (some ⟨go34, 0, none⟩) x911004_1.length co34] 75 (0, 0)) (pb_ BK910.out) hg (Kd.S_ne HO_911004.out BK910.out (by decide))); replace BK917 := Aside0.mk (blk_grown (g := gb917) (o := .cells #[.slice Ao23 t911.length co23, .int .i64 t914, .int .i64 t915, .string t916] 44 (0, 0)) (pb_ BK917.out) hg (Kd.S_away HO_911004.out (fun _ hk => hk.2.2.2))); replace HO_911004 := Aside0.mk (hp_); replace HB := Aside0.mk ((by rw [hw]; exact below_set (below_set (below_set (below_set (HB.out) GB34.out) GB34.out) GB34.out) GB34.out : Below w.heap.size w w49)); clear HO_918000; clear hg hw hp_; obtain ⟨hcz50_0, hcz50_1, hcz50_2, hcz50_3, hcz50_4, hfz50_0, hfz50_1, hfz50_2, hfz50_3, hfz50_4⟩ := bc5_ BK910.out; have hnb51 := NB900_899.out; have hnc51 := NB899_900.out; obtain ⟨hcz52_0, hcz52_1, hcz52_2, hcz52_3, hcz52_4, hfz52_0, hfz52_1, hfz52_2, hfz52_3, hfz52_4⟩ := bc5_ BK900.out))
       refine bodyPost_ret (results_cell_row rfl _ _ gb900 75 #[.int .i64 t901, .slice Ao17 t902.length co17, .int .i64 t905, .int .i64 t906, .slice (some ⟨go34, 0, none⟩) x911004_1.length co34] (0, 0) _ rfl (by (with_reducible repeat (first | refine kn_ ?_ _ | refine kd_ ?_ | refine ka_ ?_ _)); refine blk_put (cs := #[.int .i64 t901, .slice Ao17 t902.length co17, .int .i64 t905, .int .i64 t906, .slice none 0 0]) ?_ 4 _ rfl; (with_reducible repeat (first | refine kn_ ?_ _ | refine kd_ ?_ | refine ka_ ?_ _)); refine blk_put (cs := #[.int .i64 t901, .slice Ao17 t902.length co17, .int .i64 t905, .int .i64 x901003_1, .slice none 0 0]) ?_ 3 _ rfl; (with_reducible repeat (first | refine kn_ ?_ _ | refine kd_ ?_ | refine ka_ ?_ _)); refine blk_put (cs := #[.int .i64 t901, .slice Ao17 t902.length co17, .int .i64 x901002_1, .int .i64 x901003_1, .slice none 0 0]) ?_ 2 _ rfl; (with_reducible repeat (first | refine kn_ ?_ _ | refine kd_ ?_ | refine ka_ ?_ _)); refine blk_put (cs := #[.int .i64 t901, .slice none 0 0, .int .i64 x901002_1, .int .i64 x901003_1, .slice none 0 0]) ?_ 1 _ rfl; (with_reducible repeat (first | refine kn_ ?_ _ | refine kd_ ?_ | refine ka_ ?_ _)); refine blk_put (cs := #[.int .i64 x901000_1, .slice none 0 0, .int .i64 x901002_1, .int .i64 x901003_1, .slice none 0 0]) ?_ 0 _ rfl; (with_reducible repeat (first | refine kn_ ?_ _ | refine kd_ ?_ | refine ka_ ?_ _)); exact BK900.out) Try.underlying75 rfl (by kernel_rfl)) rfl ?_
       exact ⟨_, _, by first | rfl | (simp [errW_none, errW_some] <;> rfl) | (simp [*, errW_none, errW_some] <;> rfl), by (with_reducible repeat (first | apply Kd.R_alloc | apply Kd.R_drewN | apply Kd.R_drew)); exact Kd.R_mono (Kd.R_far (p := ⟨gb900, 4, none⟩) (Kd.R_far (p := ⟨gb900, 3, none⟩) (Kd.R_far (p := ⟨gb900, 2, none⟩) (Kd.R_far (p := ⟨gb900, 1, none⟩) (Kd.R_far (p := ⟨gb900, 0, none⟩) (Kd.R_types HO_911001.out BK900.out (by decide)) (fun _ hk => hk.2) (.int .i64 t901)) (fun _ hk => hk.2) (.slice Ao17 t902.length co17)) (fun _ hk => hk.2) (.int .i64 t905)) (fun _ hk => hk.2) (.int .i64 t906)) (fun _ hk => hk.2) (.slice (some ⟨go34, 0, none⟩) x911004_1.length co34)) (fun _ hk => trivial), by (with_reducible repeat (first | apply Kd.S_alloc | apply Kd.S_drewN | apply Kd.S_drew)); exact Kd.S_mono (Kd.S_far (p := ⟨gb900, 4, none⟩) (Kd.S_far (p := ⟨gb900, 3, none⟩) (Kd.S_far (p := ⟨gb900, 2, none⟩) (Kd.S_far (p := ⟨gb900, 1, none⟩) (Kd.S_far (p := ⟨gb900, 0, none⟩) (Kd.S_types HO_911004.out BK900.out (by decide)) (fun _ hk => hk.2) (.int .i64 t901)) (fun _ hk => hk.2) (.slice Ao17 t902.length co17)) (fun _ hk => hk.2) (.int .i64 t905)) (fun _ hk => hk.2) (.int .i64 t906)) (fun _ hk => hk.2) (.slice (some ⟨go34, 0, none⟩) x911004_1.length co34)) (fun _ hk => hk.1.1), by repeat (first | (with_reducible first | exact HB.out | apply ba_ | apply bn_ | apply bd_ | apply bs_ GE898 | apply bs_ GE899 | apply bs_ GE900 | apply bs_ GE910 | apply bs_ GE917) | exact HB.out)⟩
      rw [if_neg c33] at H
      exact absurd H (by simp)
     replace c32 := Bool.eq_false_iff.mpr c32
     subst c32
     rw [if_neg (show ¬ (false = true) by decide)] at H
     have H' := Aside0.mk H
     clear H
     have hnb53 := NB898_899.out
     have hnc53 := NB899_898.out
     have hnb54 := NB898_900.out
     have hnc54 := NB900_898.out
     have hnb55 := NB898_910.out
     have hnc55 := NB910_898.out
     have hnb56 := NB898_917.out
     have hnc56 := NB917_898.out
     obtain ⟨hcz57_0, hcz57_1, hcz57_2, hcz57_3, hcz57_4, hfz57_0, hfz57_1, hfz57_2, hfz57_3, hfz57_4⟩ := bc5_ BK898.out
     try go_wp2
     replace HO_911001 := Aside0.mk (Kd.R_drew HO_911001.out)
     replace HO_911004 := Aside0.mk (Kd.S_drew HO_911004.out)
     replace HO_918000 := Aside0.mk (Kd.R_drew HO_918000.out)
     replace BK898 := Aside0.mk (blk_drew BK898.out)
     replace BK899 := Aside0.mk (blk_drew BK899.out)
     replace BK900 := Aside0.mk (blk_drew BK900.out)
     replace BK910 := Aside0.mk (blk_drew BK910.out)
     replace BK917 := Aside0.mk (blk_drew BK917.out)
     replace HB := Aside0.mk (bd_ HB.out)
     have p918 : 0 ≤ (x7_1 : Int) := of_decide_eq_true (by with_reducible assumption)
     have q918 : x7_1 < (l0_4.length : Int) := of_decide_eq_true (by with_reducible assumption)
     obtain ⟨ad918, A918_0, c918_0, e918, hx918_0, hx918_1, hx918_2, hx918_3, hl918_0, hi918_0⟩ := at_T44 HR0_4.out x7_1 p918 q918
     have hw918_3 := hx918_3
     have hw918_2 := hx918_2
     have hw918_1 := hx918_1
     have hw918_0 := hx918_0
     cases e918
     replace hx918_0 := cl_ HB.out hx918_0
     replace hx918_1 := cl_ HB.out hx918_1
     replace hx918_2 := cl_ HB.out hx918_2
     replace hx918_3 := cl_ HB.out hx918_3
     have HR918_0 := Aside0.mk hi918_0
     have HC918_0 := Aside0.mk hl918_0
     clear hi918_0 hl918_0
     replace p918 := eq_true p918
     replace q918 := eq_true q918
     refine start_ (n := 9) (S := fun w' => w'.cell? ⟨gb898, 0, none⟩ = some (.int .i64 a0_0) ∧ w'.cell? ⟨gb898, 1, none⟩ = some (.slice A0_1 l0_1.length c0_1) ∧ w'.cell? ⟨gb898, 2, none⟩ = some (.int .i64 a0_2) ∧ w'.cell? ⟨gb898, 3, none⟩ = some (.int .i64 a0_3) ∧ w'.cell? ⟨gb898, 4, none⟩ = some (.slice (some ad918) l0_4.length c0_4) ∧ w'.cell? ⟨gb899, 0, none⟩ = some (.slice A1_0 l1_0.length c1_0) ∧ w'.cell? ⟨gb899, 1, none⟩ = some (.int .i64 a1_1) ∧ w'.cell? ⟨gb899, 2, none⟩ = some (.int .i64 a1_2) ∧ w'.cell? ⟨gb899, 3, none⟩ = some (.string a1_3) ∧ w'.cell? (ad918.add ((x7_1).toNat * 4)) = some (.slice A918_0 ((rd_T44 l0_4 x7_1).f0).length c918_0) ∧ w'.cell? ⟨(ad918.add ((x7_1).toNat * 4)).block, (ad918.add ((x7_1).toNat * 4)).off + 1, none⟩ = some (.int .i64 ((rd_T44 l0_4 x7_1).f1)) ∧ w'.cell? ⟨(ad918.add ((x7_1).toNat * 4)).block, (ad918.add ((x7_1).toNat * 4)).off + 2, none⟩ = some (.int .i64 ((rd_T44 l0_4 x7_1).f2)) ∧ w'.cell? ⟨(ad918.add ((x7_1).toNat * 4)).block, (ad918.add ((x7_1).toNat * 4)).off + 3, none⟩ = some (.string ((rd_T44 l0_4 x7_1).f3))) (ds := []) #[f_,f_,f_,f_,f_,f_,f_,f_,f_] (by kernel_rfl) rfl rfl ⟨bx_ BK898.out 0, bx_ BK898.out 1, bx_ BK898.out 2, bx_ BK898.out 3, bx_ BK898.out 4, bx_ BK899.out 0, bx_ BK899.out 1, bx_ BK899.out 2, bx_ BK899.out 3, ((HB.out.cell (World.block_lt_of_cell? w _ hw918_0)).trans hw918_0), ((HB.out.cell (World.block_lt_of_cell? w _ hw918_1)).trans hw918_1), ((HB.out.cell (World.block_lt_of_cell? w _ hw918_2)).trans hw918_2), ((HB.out.cell (World.block_lt_of_cell? w _ hw918_3)).trans hw918_3)⟩ (fun hHeld => ?_); refine with_tabW spec_JoinIn.tab6 spec_JoinIn.bits6 (fun HT_ HW_ => ?_)
     generalize wr.drew = w58 at HO_911001 HO_911004 HO_918000 BK898 BK899 BK900 BK910 BK917 HB HR918_0 hx918_0 hx918_1 hx918_2 hx918_3 hHeld ⊢
     refine pu_ 0 20 ?_ (b_ 1 8) rfl rfl HT_.out ?_ ?_ ?_ ?_; rotate_left; intro w'; go_simp; with_reducible rfl; rotate_left; simp only [fr_]; rfl
     refine pu_ 2 22 ?_ #[t_,f_,t_,f_,f_,f_,f_,f_,f_] rfl rfl HT_.out ?_ ?_ ?_ ?_; rotate_left; intro w'; go_simp; with_reducible rfl; rotate_left; simp only [fr_]; rfl
     refine pu_ 6 26 ?_ #[t_,f_,t_,f_,f_,f_,t_,f_,f_] rfl rfl HT_.out ?_ ?_ ?_ ?_; rotate_left; intro w'; go_simp; with_reducible rfl; rotate_left; simp only [fr_]; rfl
     refine take_ (i := 1) (N := some 21) (v := ?_) (a' := ?_) #[t_,t_,t_,f_,f_,f_,t_,f_,f_] rfl rfl (take_ofW HT_.out HW_.out (by kernel_rfl)) (fun _ _ _ h => h) (Or.inl ⟨by rfl, ?_⟩) hHeld ?_ ?_
     rotate_left
     ·
      rintro w' ⟨s0, s1, s2, s3, s4, s5, s6, s7, s8, s9, s10, s11, s12⟩
      go_simp
      with_reducible rfl
     rotate_left
     ·
      simp only [fr_]
      rfl
     refine pu_ 3 23 ?_ #[t_,t_,t_,t_,f_,f_,t_,f_,f_] rfl rfl HT_.out ?_ ?_ ?_ ?_; rotate_left; intro w'; go_simp; with_reducible rfl; rotate_left; simp only [fr_]; rfl
     refine pu_ 4 24 ?_ #[t_,t_,t_,t_,t_,f_,t_,f_,f_] rfl rfl HT_.out ?_ ?_ ?_ ?_; rotate_left; intro w'; go_simp; with_reducible rfl; rotate_left; simp only [fr_]; rfl
     refine take_ (i := 5) (N := some 25) (v := ?_) (a' := ?_) #[t_,t_,t_,t_,t_,t_,t_,f_,f_] rfl rfl (take_ofW HT_.out HW_.out (by kernel_rfl)) (fun _ _ _ h => h) (Or.inl ⟨by rfl, ?_⟩) hHeld ?_ ?_
     rotate_left
     ·
      rintro w' ⟨s0, s1, s2, s3, s4, s5, s6, s7, s8, s9, s10, s11, s12⟩
      go_simp
      with_reducible rfl
     rotate_left
     ·
      simp only [fr_]
      rfl
     refine take_ (i := 7) (N := some 27) (v := ?_) (a' := ?_) #[t_,t_,t_,t_,t_,t_,t_,t_,f_] rfl rfl (take_ofW HT_.out HW_.out (by kernel_rfl)) (fun _ _ _ h => h) (Or.inl ⟨by rfl, ?_⟩) hHeld ?_ ?_
     rotate_left
     ·
      rintro w' ⟨s0, s1, s2, s3, s4, s5, s6, s7, s8, s9, s10, s11, s12⟩
      go_simp
      with_reducible rfl
     rotate_left
     ·
      simp only [fr_]
      rfl
     refine one_ (i := 8) (N := some 28) #[t_,t_,t_,t_,t_,t_,t_,t_,t_] rfl rfl (one_of HT_.out (by kernel_rfl)) (by decide) (fun K hK => ?_)
     refine goes_ Try.func106 (by kernel_rfl) rfl #[.slice A918_0 ((rd_T44 l0_4 x7_1).f0).length c918_0, .slice A1_0 l1_0.length c1_0] (by rfl) rfl rfl (by (try simp only [mp_]); first | done | rfl | (simp only [List.length_drop, List.length_take]; rfl)) ?_
     with_reducible refine (spec_SameSet.calls k1 _ _ ((rd_T44 l0_4 x7_1).f0) _ _ l1_0 false _ ?side1 ?side2 ?side3 ?side4 A31.out).mono ?_
     (case side1 => exact cp_ ((Kd.C_below HR918_0.out HB.out)))
     (case side2 => exact HC918_0.out)
     (case side3 => exact cp_ ((Kd.C_below HR1_0.out HB.out)))
     (case side4 => exact HC1_0.out)
     rintro e w' ⟨rfl, ⟨nd, rfl⟩⟩
     refine ⟨_, rfl, ?_⟩
     refine hK.out _ _ ⟨bx_ BK898.out 0, bx_ BK898.out 1, bx_ BK898.out 2, bx_ BK898.out 3, bx_ BK898.out 4, bx_ BK899.out 0, bx_ BK899.out 1, bx_ BK899.out 2, bx_ BK899.out 3, ((HB.out.cell (World.block_lt_of_cell? w _ hw918_0)).trans hw918_0), ((HB.out.cell (World.block_lt_of_cell? w _ hw918_1)).trans hw918_1), ((HB.out.cell (World.block_lt_of_cell? w _ hw918_2)).trans hw918_2), ((HB.out.cell (World.block_lt_of_cell? w _ hw918_3)).trans hw918_3)⟩ (fun hHeld => ?_)
     clear hK K
     refine norm_ (a' := ?_) ?_ ?_
     rotate_left
     ·
      show Act.put _ (some 28) _ = _
      simp only [fr_]
      rfl
     refine done_ (done_of HT_.out (by kernel_rfl)) ?_
     try go_wp2
     go_roundg k1
     case measure => have := HK1.out; omega
     case rel => exact ⟨(wrap64 (x7_1 + 1)), (x901000_1), (x901002_1), (x901003_1), (x911004_1), (u911004), (by first | rfl | (simp; done) | (simp [*]; done)), H', ⟨by have := HK1.out; omega⟩, ⟨by (with_reducible repeat (first | apply Kd.R_alloc | apply Kd.R_drewN | apply Kd.R_drew)); exact HO_911001.out⟩, ⟨by (with_reducible repeat (first | apply Kd.S_alloc | apply Kd.S_drewN | apply Kd.S_drew)); exact HO_911004.out⟩, ⟨by (with_reducible repeat (first | apply Kd.R_alloc | apply Kd.R_drewN | apply Kd.R_drew)); exact HO_918000.out⟩, ⟨by (with_reducible repeat (first | refine kn_ ?_ _ | refine kd_ ?_ | refine ka_ ?_ _)); exact BK898.out⟩, ⟨by (with_reducible repeat (first | refine kn_ ?_ _ | refine kd_ ?_ | refine ka_ ?_ _)); exact BK899.out⟩, ⟨by (with_reducible repeat (first | refine kn_ ?_ _ | refine kd_ ?_ | refine ka_ ?_ _)); exact BK900.out⟩, ⟨by (with_reducible repeat (first | refine kn_ ?_ _ | refine kd_ ?_ | refine ka_ ?_ _)); exact BK910.out⟩, ⟨by (with_reducible repeat (first | refine kn_ ?_ _ | refine kd_ ?_ | refine ka_ ?_ _)); exact BK917.out⟩, ⟨by repeat (first | (with_reducible first | exact HB.out | apply ba_ | apply bn_ | apply bd_ | apply bs_ GE898 | apply bs_ GE899 | apply bs_ GE900 | apply bs_ GE910 | apply bs_ GE917) | exact HB.out)⟩⟩
    rw [if_neg c30] at H
    exact absurd H (by simp)
   rw [if_neg c29] at H
   have c29b0 : decide (x7_1 < (l0_4.length : Int)) = false := decide_eq_false c29
   clear c29
   have H' := Aside0.mk H
   clear H
   have hnb59 := NB898_899.out
   have hnc59 := NB899_898.out
   have hnb60 := NB898_900.out
   have hnc60 := NB900_898.out
   have hnb61 := NB898_910.out
   have hnc61 := NB910_898.out
   have hnb62 := NB898_917.out
   have hnc62 := NB917_898.out
   obtain ⟨hcz63_0, hcz63_1, hcz63_2, hcz63_3, hcz63_4, hfz63_0, hfz63_1, hfz63_2, hfz63_3, hfz63_4⟩ := bc5_ BK898.out
   go_wp2
   go_loopg [8] k1 (fun kq v8 w' => ∃ (x8_2 : Int), v8 = .int .i64 x8_2 ∧ Aside0 (spec_JoinIn.l1 kq x8_2 a0_0 l0_1 a0_2 a0_3 l0_4 l1_0 a1_1 a1_2 a1_3 t901 t902 t905 t906 x911004_1 t911 t914 t915 t916 = some (r1, r2, r3, r4, r5)) ∧ Aside0 (kq ≤ k1) ∧ Aside0 (Kd.R k164 164 w' w.heap.size (fun k_ => some k_ ≠ ((.slice Ao23 t911.length co23) : Value).ownBlock) (.slice Ao17 t902.length co17) t902) ∧ Aside0 (Kd.S k44 44 w' w.heap.size (fun k_ => some k_ ≠ ((.slice Ao17 t902.length co17) : Value).ownBlock ∧ some k_ ≠ ((.slice Ao23 t911.length co23) : Value).ownBlock ∧ k_ ≠ gb899 ∧ k_ ≠ gb917) u911004 x911004_1) ∧ Aside0 (Kd.R k164 164 w' w.heap.size (fun k_ => some k_ ≠ ((.slice Ao17 t902.length co17) : Value).ownBlock) (.slice Ao23 t911.length co23) t911) ∧ Aside0 (w'.heap[gb898]? = some (.cells #[.int .i64 a0_0, (.slice A0_1 l0_1.length c0_1), .int .i64 a0_2, .int .i64 a0_3, (.slice A0_4 l0_4.length c0_4)] 75 (0, 0))) ∧ Aside0 (w'.heap[gb899]? = some (.cells #[(.slice A1_0 l1_0.length c1_0), .int .i64 a1_1, .int .i64 a1_2, .string a1_3] 44 (0, 0))) ∧ Aside0 (w'.heap[gb900]? = some (.cells #[.int .i64 x901000_1, (.slice none 0 0), .int .i64 x901002_1, .int .i64 x901003_1, (.slice none 0 0)] 75 (0, 0))) ∧ Aside0 (w'.heap[gb910]? = some (.cells #[.int .i64 t901, (.slice Ao17 t902.length co17), .int .i64 t905, .int .i64 t906, u911004] 75 (0, 0))) ∧ Aside0 (w'.heap[gb917]? = some (.cells #[(.slice Ao23 t911.length co23), .int .i64 t914, .int .i64 t915, .string t916] 44 (0, 0))) ∧ Aside0 (Below w.heap.size w w'))
   case atStart => exact ⟨(0), (by first | rfl | (simp; done) | (simp [*]; done)), H', ⟨Nat.le_refl _⟩, ⟨by (with_reducible repeat (first | apply Kd.R_alloc | apply Kd.R_drewN | apply Kd.R_drew)); exact HO_911001.out⟩, ⟨by (with_reducible repeat (first | apply Kd.S_alloc | apply Kd.S_drewN | apply Kd.S_drew)); exact HO_911004.out⟩, ⟨by (with_reducible repeat (first | apply Kd.R_alloc | apply Kd.R_drewN | apply Kd.R_drew)); exact HO_918000.out⟩, ⟨by (with_reducible repeat (first | refine kn_ ?_ _ | refine kd_ ?_ | refine ka_ ?_ _)); exact BK898.out⟩, ⟨by (with_reducible repeat (first | refine kn_ ?_ _ | refine kd_ ?_ | refine ka_ ?_ _)); exact BK899.out⟩, ⟨by (with_reducible repeat (first | refine kn_ ?_ _ | refine kd_ ?_ | refine ka_ ?_ _)); exact BK900.out⟩, ⟨by (with_reducible repeat (first | refine kn_ ?_ _ | refine kd_ ?_ | refine ka_ ?_ _)); exact BK910.out⟩, ⟨by (with_reducible repeat (first | refine kn_ ?_ _ | refine kd_ ?_ | refine ka_ ?_ _)); exact BK917.out⟩, ⟨by repeat (first | (with_reducible first | exact HB.out | apply ba_ | apply bn_ | apply bd_ | apply bs_ GE898 | apply bs_ GE899 | apply bs_ GE900 | apply bs_ GE910 | apply bs_ GE917) | exact HB.out)⟩⟩
   case round =>
    clear H'
    try clear c1
    try clear c2
    try clear p2
    try clear c3
    try clear p3
    try clear q3
    try clear hx3
    try clear hf3
    try clear c4
    try clear hx4
    try clear hf4
    try clear c5
    try clear c6
    try clear p6
    try clear c8
    try clear c9
    try clear p9
    try clear q9
    try clear hx9
    try clear c10
    try clear c11
    try clear c13
    try clear c14
    try clear c15
    try clear c19
    try clear c24
    try clear c25
    try clear c26
    try clear c27
    try clear c29
    try clear c29b0
    try clear c30
    try clear c30b0
    try clear c32
    try clear c33
    try clear c33b0
    try clear c34
    try clear p34
    try clear q34
    try clear hx34
    try clear hf34
    try clear c35
    try clear c36
    try clear c37
    try clear c38
    try clear c41
    try clear c42
    try clear c43
    try clear c45
    try clear c46
    try clear c48
    try clear hx48
    try clear hf48
    try clear c51
    try clear c53
    try clear c54
    try clear c55
    try clear c56
    try clear c59
    try clear c60
    try clear c61
    try clear c62
    try clear hcz63_0 hcz63_1 hcz63_2 hcz63_3 hcz63_4 hfz63_0 hfz63_1 hfz63_2 hfz63_3 hfz63_4
    try clear hx34_0
    try clear hx34_1
    try clear hx34_2
    try clear hx34_3
    try clear hx48_0
    try clear hx48_1
    try clear hx48_2
    try clear hx48_3
    try clear hx918_0
    try clear hx918_1
    try clear hx918_2
    try clear hx918_3
    try clear p2
    try clear p34
    try clear p918
    try clear q34
    try clear q918
    obtain ⟨x8_2, rfl, HA, HK2, HO_911001, HO_911004, HO_918000, BK898, BK899, BK900, BK910, BK917, HB⟩ := hrel
    cases gk with
    | zero => exact absurd HA.out (by simp [spec_JoinIn.l1])
    | succ k2 =>
     have H := HA.out
     clear HA
     simp only [spec_JoinIn.l1] at H
     by_cases c64 : x8_2 < (l0_4.length : Int)
     ·
      rw [if_pos c64] at H
      have c64b0 := decide_eq_true c64
      clear c64
      by_cases c65 : 0 ≤ x8_2
      ·
       rw [if_pos c65] at H
       have c65b0 := decide_eq_true c65
       clear c65
       replace H := Option.bind_eq_some_iff.mp H
       obtain ⟨t922, A660, H⟩ := H
       have A66 := Aside0.mk A660
       clear A660
       by_cases c67 : t922 = true
       ·
        subst c67
        rw [if_pos rfl] at H
        have c68b0 := eq_true (of_decide_eq_true (by with_reducible assumption) : 0 ≤ x8_2)
        by_cases c69 : x8_2 ≤ (l0_4.length : Int)
        ·
         rw [if_pos c69] at H
         have c69b0 := eq_true c69
         have c69b1 := decide_eq_true c69
         clear c69
         obtain ⟨y923, hy923⟩ : ∃ y_ : List (S44), y_ = (l0_4.take (x8_2 : Int).toNat) := ⟨_, rfl⟩
         replace H : ((spec_l4All.f k2 y923).bind fun t927 => (if t927.length < 2513169434916 then ((some (t927 ++ [(⟨t911, t914, t915, t916⟩ : S44)] : List (S44))).bind fun y931 => ((spec_l4All.f k2 (l0_4.drop (x8_2 : Int).toNat)).bind fun t938 => (if y931.length + t938.length < 2513169434916 then (some (t901, t902, t905, t906, (y931 ++ t938))) else (none)))) else (none))) = some (r1, r2, r3, r4, r5) := by first | (rw [hy923]; with_reducible exact H) | (have H2_ := (Option.bind_some _ _).symm.trans H; rw [hy923]; with_reducible exact H2_) | (have H2_ := (Option.bind_some _ _).symm.trans H; with_reducible exact H2_) | with_reducible exact H | (rw [hy923]; exact H) | exact H
         have Ny923 := Aside0.mk hy923
         clear hy923
         replace H := Option.bind_eq_some_iff.mp H
         obtain ⟨t927, A700, H⟩ := H
         have A70 := Aside0.mk A700
         clear A700
         by_cases c71 : t927.length < 2513169434916
         ·
          rw [if_pos c71] at H
          have LMc71 := Aside0.mk c71
          clear c71
          obtain ⟨y931, hy931⟩ : ∃ y_ : List (S44), y_ = (t927 ++ [(⟨t911, t914, t915, t916⟩ : S44)]) := ⟨_, rfl⟩
          replace H : ((spec_l4All.f k2 (l0_4.drop (x8_2 : Int).toNat)).bind fun t938 => (if y931.length + t938.length < 2513169434916 then (some (t901, t902, t905, t906, (y931 ++ t938))) else (none))) = some (r1, r2, r3, r4, r5) := by first | (rw [hy931]; with_reducible exact H) | (have H2_ := (Option.bind_some _ _).symm.trans H; rw [hy931]; with_reducible exact H2_) | (have H2_ := (Option.bind_some _ _).symm.trans H; with_reducible exact H2_) | with_reducible exact H | (rw [hy931]; exact H) | exact H
          have Ny931 := Aside0.mk hy931
          clear hy931
          have c72b0 := eq_true (of_decide_eq_true (by with_reducible assumption) : 0 ≤ x8_2)
          have c73b0 := eq_true (of_decide_eq_true (by with_reducible assumption) : x8_2 ≤ (l0_4.length : Int))
          obtain ⟨y934, hy934⟩ : ∃ y_ : List (S44), y_ = (l0_4.drop (x8_2 : Int).toNat) := ⟨_, rfl⟩
          replace H : ((spec_l4All.f k2 y934).bind fun t938 => (if y931.length + t938.length < 2513169434916 then (some (t901, t902, t905, t906, (y931 ++ t938))) else (none))) = some (r1, r2, r3, r4, r5) := by first | (rw [hy934]; with_reducible exact H) | (have H2_ := (Option.bind_some _ _).symm.trans H; rw [hy934]; with_reducible exact H2_) | (have H2_ := (Option.bind_some _ _).symm.trans H; with_reducible exact H2_) | with_reducible exact H | (rw [hy934]; exact H) | exact H
          have Ny934 := Aside0.mk hy934
          clear hy934
          replace H := Option.bind_eq_some_iff.mp H
          obtain ⟨t938, A740, H⟩ := H
          have A74 := Aside0.mk A740
          clear A740
          by_cases c75 : y931.length + t938.length < 2513169434916
          ·
           rw [if_pos c75] at H
           have LMc75 := Aside0.mk c75
           clear c75
           obtain ⟨y941, hy941⟩ : ∃ y_ : List (S44), y_ = (y931 ++ t938) := ⟨_, rfl⟩
           replace H : (some (t901, t902, t905, t906, y941)) = some (r1, r2, r3, r4, r5) := by first | (rw [hy941]; with_reducible exact H) | (have H2_ := (Option.bind_some _ _).symm.trans H; rw [hy941]; with_reducible exact H2_) | (have H2_ := (Option.bind_some _ _).symm.trans H; with_reducible exact H2_) | with_reducible exact H | (rw [hy941]; exact H) | exact H
           have Ny941 := Aside0.mk hy941
           clear hy941
           simp only [Option.some.injEq, Prod.mk.injEq] at H
           obtain ⟨rfl, rfl, rfl, rfl, rfl⟩ := H
           try go_wp2
           replace HO_911001 := Aside0.mk (Kd.R_drew HO_911001.out)
           replace HO_911004 := Aside0.mk (Kd.S_drew HO_911004.out)
           replace HO_918000 := Aside0.mk (Kd.R_drew HO_918000.out)
           replace BK898 := Aside0.mk (blk_drew BK898.out)
           replace BK899 := Aside0.mk (blk_drew BK899.out)
           replace BK900 := Aside0.mk (blk_drew BK900.out)
           replace BK910 := Aside0.mk (blk_drew BK910.out)
           replace BK917 := Aside0.mk (blk_drew BK917.out)
           replace HB := Aside0.mk (bd_ HB.out)
           have p921 : 0 ≤ (x8_2 : Int) := of_decide_eq_true (by with_reducible assumption)
           have q921 : x8_2 < (l0_4.length : Int) := of_decide_eq_true (by with_reducible assumption)
           obtain ⟨ad921, A921_0, c921_0, e921, hx921_0, hx921_1, hx921_2, hx921_3, hl921_0, hi921_0⟩ := at_T44 HR0_4.out x8_2 p921 q921
           have hw921_3 := hx921_3
           have hw921_2 := hx921_2
           have hw921_1 := hx921_1
           have hw921_0 := hx921_0
           cases e921
           replace hx921_0 := cl_ HB.out hx921_0
           replace hx921_1 := cl_ HB.out hx921_1
           replace hx921_2 := cl_ HB.out hx921_2
           replace hx921_3 := cl_ HB.out hx921_3
           have HR921_0 := Aside0.mk hi921_0
           have HC921_0 := Aside0.mk hl921_0
           clear hi921_0 hl921_0
           replace p921 := eq_true p921
           replace q921 := eq_true q921
           refine start_ (n := 17) (S := fun w' => w'.cell? ⟨gb898, 0, none⟩ = some (.int .i64 a0_0) ∧ w'.cell? ⟨gb898, 1, none⟩ = some (.slice A0_1 l0_1.length c0_1) ∧ w'.cell? ⟨gb898, 2, none⟩ = some (.int .i64 a0_2) ∧ w'.cell? ⟨gb898, 3, none⟩ = some (.int .i64 a0_3) ∧ w'.cell? ⟨gb898, 4, none⟩ = some (.slice (some ad921) l0_4.length c0_4) ∧ w'.cell? ⟨gb899, 0, none⟩ = some (.slice A1_0 l1_0.length c1_0) ∧ w'.cell? ⟨gb899, 1, none⟩ = some (.int .i64 a1_1) ∧ w'.cell? ⟨gb899, 2, none⟩ = some (.int .i64 a1_2) ∧ w'.cell? ⟨gb899, 3, none⟩ = some (.string a1_3) ∧ w'.cell? (ad921.add ((x8_2).toNat * 4)) = some (.slice A921_0 ((rd_T44 l0_4 x8_2).f0).length c921_0) ∧ w'.cell? ⟨(ad921.add ((x8_2).toNat * 4)).block, (ad921.add ((x8_2).toNat * 4)).off + 1, none⟩ = some (.int .i64 ((rd_T44 l0_4 x8_2).f1)) ∧ w'.cell? ⟨(ad921.add ((x8_2).toNat * 4)).block, (ad921.add ((x8_2).toNat * 4)).off + 2, none⟩ = some (.int .i64 ((rd_T44 l0_4 x8_2).f2)) ∧ w'.cell? ⟨(ad921.add ((x8_2).toNat * 4)).block, (ad921.add ((x8_2).toNat * 4)).off + 3, none⟩ = some (.string ((rd_T44 l0_4 x8_2).f3))) (ds := []) #[f_,f_,f_,f_,f_,f_,f_,f_,f_,f_,f_,f_,f_,f_,f_,f_,f_] (by kernel_rfl) rfl rfl ⟨bx_ BK898.out 0, bx_ BK898.out 1, bx_ BK898.out 2, bx_ BK898.out 3, bx_ BK898.out 4, bx_ BK899.out 0, bx_ BK899.out 1, bx_ BK899.out 2, bx_ BK899.out 3, ((HB.out.cell (World.block_lt_of_cell? w _ hw921_0)).trans hw921_0), ((HB.out.cell (World.block_lt_of_cell? w _ hw921_1)).trans hw921_1), ((HB.out.cell (World.block_lt_of_cell? w _ hw921_2)).trans hw921_2), ((HB.out.cell (World.block_lt_of_cell? w _ hw921_3)).trans hw921_3)⟩ (fun hHeld => ?_); refine with_tabW spec_JoinIn.tab10 spec_JoinIn.bits10 (fun HT_ HW_ => ?_)
           generalize wr.drew = w76 at HO_911001 HO_911004 HO_918000 BK898 BK899 BK900 BK910 BK917 HB HR921_0 hx921_0 hx921_1 hx921_2 hx921_3 hHeld ⊢
           refine pu_ 0 35 ?_ (b_ 1 16) rfl rfl HT_.out ?_ ?_ ?_ ?_; rotate_left; intro w'; go_simp; with_reducible rfl; rotate_left; simp only [fr_]; rfl
           refine pu_ 1 36 ?_ (b_ 2 15) rfl rfl HT_.out ?_ ?_ ?_ ?_; rotate_left; intro w'; go_simp; with_reducible rfl; rotate_left; simp only [fr_]; rfl
           refine take_ (i := 2) (N := some 37) (v := ?_) (a' := ?_) #[t_,t_,t_,f_,f_,f_,f_,f_,f_,f_,f_,f_,f_,f_,f_,f_,f_] rfl rfl (take_ofW HT_.out HW_.out (by kernel_rfl)) (fun _ _ _ h => h) (Or.inl ⟨by rfl, ?_⟩) hHeld ?_ ?_
           rotate_left
           ·
            rintro w' ⟨s0, s1, s2, s3, s4, s5, s6, s7, s8, s9, s10, s11, s12⟩
            go_simp
            with_reducible rfl
           rotate_left
           ·
            simp only [fr_]
            rfl
           refine pu_ 3 38 ?_ (b_ 4 13) rfl rfl HT_.out ?_ ?_ ?_ ?_; rotate_left; intro w'; go_simp; with_reducible rfl; rotate_left; simp only [fr_]; rfl
           refine pu_ 4 39 ?_ (b_ 5 12) rfl rfl HT_.out ?_ ?_ ?_ ?_; rotate_left; intro w'; go_simp; with_reducible rfl; rotate_left; simp only [fr_]; rfl
           refine pu_ 5 40 ?_ (b_ 6 11) rfl rfl HT_.out ?_ ?_ ?_ ?_; rotate_left; intro w'; go_simp; with_reducible rfl; rotate_left; simp only [fr_]; rfl
           refine pu_ 6 41 ?_ (b_ 7 10) rfl rfl HT_.out ?_ ?_ ?_ ?_; rotate_left; intro w'; go_simp; with_reducible rfl; rotate_left; simp only [fr_]; rfl
           refine pu_ 8 43 ?_ #[t_,t_,t_,t_,t_,t_,t_,f_,t_,f_,f_,f_,f_,f_,f_,f_,f_] rfl rfl HT_.out ?_ ?_ ?_ ?_; rotate_left; intro w'; go_simp; with_reducible rfl; rotate_left; simp only [fr_]; rfl
           refine pu_ 10 45 ?_ #[t_,t_,t_,t_,t_,t_,t_,f_,t_,f_,t_,f_,f_,f_,f_,f_,f_] rfl rfl HT_.out ?_ ?_ ?_ ?_; rotate_left; intro w'; go_simp; with_reducible rfl; rotate_left; simp only [fr_]; rfl
           refine take_ (i := 7) (N := some 42) (v := ?_) (a' := ?_) #[t_,t_,t_,t_,t_,t_,t_,t_,t_,f_,t_,f_,f_,f_,f_,f_,f_] rfl rfl (take_ofW HT_.out HW_.out (by kernel_rfl)) (fun _ _ _ h => h) (Or.inl ⟨by rfl, ?_⟩) hHeld ?_ ?_
           rotate_left
           ·
            rintro w' ⟨s0, s1, s2, s3, s4, s5, s6, s7, s8, s9, s10, s11, s12⟩
            go_simp
            with_reducible rfl
           rotate_left
           ·
            simp only [fr_]
            rfl
           refine take_ (i := 9) (N := some 44) (v := ?_) (a' := ?_) #[t_,t_,t_,t_,t_,t_,t_,t_,t_,t_,t_,f_,f_,f_,f_,f_,f_] rfl rfl (take_ofW HT_.out HW_.out (by kernel_rfl)) (fun _ _ _ h => h) (Or.inl ⟨by rfl, ?_⟩) hHeld ?_ ?_
           rotate_left
           ·
            rintro w' ⟨s0, s1, s2, s3, s4, s5, s6, s7, s8, s9, s10, s11, s12⟩
            go_simp
            with_reducible rfl
           rotate_left
           ·
            simp only [fr_]
            rfl
           refine pu_ 11 46 ?_ (b_ 12 5) rfl rfl HT_.out ?_ ?_ ?_ ?_; rotate_left; intro w'; go_simp; with_reducible rfl; rotate_left; simp only [fr_]; rfl
           refine pu_ 12 47 ?_ (b_ 13 4) rfl rfl HT_.out ?_ ?_ ?_ ?_; rotate_left; intro w'; go_simp; with_reducible rfl; rotate_left; simp only [fr_]; rfl
           refine take_ (i := 13) (N := some 48) (v := ?_) (a' := ?_) #[t_,t_,t_,t_,t_,t_,t_,t_,t_,t_,t_,t_,t_,t_,f_,f_,f_] rfl rfl (take_ofW HT_.out HW_.out (by kernel_rfl)) (fun _ _ _ h => h) (Or.inl ⟨by rfl, ?_⟩) hHeld ?_ ?_
           rotate_left
           ·
            rintro w' ⟨s0, s1, s2, s3, s4, s5, s6, s7, s8, s9, s10, s11, s12⟩
            go_simp
            with_reducible rfl
           rotate_left
           ·
            simp only [fr_]
            rfl
           refine one_ (i := 14) (N := some 49) #[t_,t_,t_,t_,t_,t_,t_,t_,t_,t_,t_,t_,t_,t_,t_,f_,f_] rfl rfl (one_of HT_.out (by kernel_rfl)) (by decide) (fun K hK => ?_)
           refine goes_ Try.func105 (by kernel_rfl) rfl #[.slice A1_0 l1_0.length c1_0, .slice A921_0 ((rd_T44 l0_4 x8_2).f0).length c921_0] (by rfl) rfl rfl (by (try simp only [mp_]); first | done | rfl | (simp only [List.length_drop, List.length_take]; rfl)) ?_
           with_reducible refine (spec_SetLess.calls k2 _ _ l1_0 _ _ ((rd_T44 l0_4 x8_2).f0) true _ ?side1 ?side2 ?side3 ?side4 A66.out).mono ?_
           (case side1 => exact cp_ ((Kd.C_below HR1_0.out HB.out)))
           (case side2 => exact HC1_0.out)
           (case side3 => exact cp_ ((Kd.C_below HR921_0.out HB.out)))
           (case side4 => exact HC921_0.out)
           rintro e w' ⟨rfl, ⟨nd, rfl⟩⟩
           refine ⟨_, rfl, ?_⟩
           refine hK.out _ _ ⟨bx_ BK898.out 0, bx_ BK898.out 1, bx_ BK898.out 2, bx_ BK898.out 3, bx_ BK898.out 4, bx_ BK899.out 0, bx_ BK899.out 1, bx_ BK899.out 2, bx_ BK899.out 3, ((HB.out.cell (World.block_lt_of_cell? w _ hw921_0)).trans hw921_0), ((HB.out.cell (World.block_lt_of_cell? w _ hw921_1)).trans hw921_1), ((HB.out.cell (World.block_lt_of_cell? w _ hw921_2)).trans hw921_2), ((HB.out.cell (World.block_lt_of_cell? w _ hw921_3)).trans hw921_3)⟩ (fun hHeld => ?_)
           clear hK K
           refine norm_ (a' := ?_) ?_ ?_
           rotate_left
           ·
            show Act.put _ (some 49) _ = _
            simp only [fr_]
            rfl
           refine pu_ 15 50 ?_ (b_ 16 1) rfl rfl HT_.out ?_ ?_ ?_ ?_; rotate_left; intro w'; go_simp; with_reducible rfl; rotate_left; simp only [fr_]; rfl
           refine pu_ 16 51 ?_ (b_ 17 0) rfl rfl HT_.out ?_ ?_ ?_ ?_; rotate_left; intro w'; go_simp; with_reducible rfl; rotate_left; simp only [fr_]; rfl
           refine done_ (done_of HT_.out (by kernel_rfl)) ?_
           try go_wp2
           (try (rw [drewN_self w76]; generalize hq_ : World.drewN w76 _ = w76; replace HO_911001 : Aside0 (Kd.R k164 164 w76 w.heap.size (fun k_ => some k_ ≠ (.slice Ao23 t911.length co23 : Value).ownBlock) (.slice Ao17 t902.length co17) t902) := ⟨by rw [← hq_]; exact (rp_ HO_911001.out)⟩; replace HO_911004 : Aside0 (Kd.S k44 44 w76 w.heap.size (fun k_ => some k_ ≠ (.slice Ao17 t902.length co17 : Value).ownBlock ∧ some k_ ≠ (.slice Ao23 t911.length co23 : Value).ownBlock ∧ k_ ≠ gb899 ∧ k_ ≠ gb917) u911004 x911004_1) := ⟨by rw [← hq_]; exact (sp_ HO_911004.out)⟩; replace HO_918000 : Aside0 (Kd.R k164 164 w76 w.heap.size (fun k_ => some k_ ≠ (.slice Ao17 t902.length co17 : Value).ownBlock) (.slice Ao23 t911.length co23) t911) := ⟨by rw [← hq_]; exact (rp_ HO_918000.out)⟩; replace BK898 : Aside0 (w76.heap[gb898]? = some (.cells #[.int .i64 a0_0, .slice A0_1 l0_1.length c0_1, .int .i64 a0_2, .int .i64 a0_3, .slice (some ad921) l0_4.length c0_4] 75 (0, 0))) := ⟨by rw [← hq_]; exact (pb_ BK898.out)⟩; replace BK899 : Aside0 (w76.heap[gb899]? = some (.cells #[.slice A1_0 l1_0.length c1_0, .int .i64 a1_1, .int .i64 a1_2, .string a1_3] 44 (0, 0))) := ⟨by rw [← hq_]; exact (pb_ BK899.out)⟩; replace BK900 : Aside0 (w76.heap[gb900]? = some (.cells #[.int .i64 x901000_1, .slice none 0 0, .int .i64 x901002_1, .int .i64 x901003_1, .slice none 0 0] 75 (0, 0))) := ⟨by rw [← hq_]; exact (pb_ BK900.out)⟩; replace BK910 : Aside0 (w76.heap[gb910]? = some (.cells #[.int .i64 t901, .slice Ao17 t902.length co17, .int .i64 t905, .int .i64 t906, u911004] 75 (0, 0))) := ⟨by rw [← hq_]; exact (pb_ BK910.out)⟩; replace BK917 : Aside0 (w76.heap[gb917]? = some (.cells #[.slice Ao23 t911.length co23, .int .i64 t914, .int .i64 t915, .string t916] 44 (0, 0))) := ⟨by rw [← hq_]; exact (pb_ BK917.out)⟩; replace HB : Aside0 (Below w.heap.size w w76) := ⟨by rw [← hq_]; exact (by repeat (first | (with_reducible first | exact HB.out | apply ba_ | apply bn_ | apply bd_ | apply bs_ GE898 | apply bs_ GE899 | apply bs_ GE900 | apply bs_ GE910 | apply bs_ GE917) | exact HB.out))⟩; clear hq_))
           replace HO_911001 := Aside0.mk (Kd.R_drew HO_911001.out)
           replace HO_911004 := Aside0.mk (Kd.S_drew HO_911004.out)
           replace HO_918000 := Aside0.mk (Kd.R_drew HO_918000.out)
           replace BK898 := Aside0.mk (blk_drew BK898.out)
           replace BK899 := Aside0.mk (blk_drew BK899.out)
           replace BK900 := Aside0.mk (blk_drew BK900.out)
           replace BK910 := Aside0.mk (blk_drew BK910.out)
           replace BK917 := Aside0.mk (blk_drew BK917.out)
           replace HB := Aside0.mk (bd_ HB.out)
           have q78 : (x8_2 : Int) ≤ ((l0_4.length : Int) : Int) := of_decide_eq_true (by with_reducible assumption)
           obtain ⟨i078, hi078, _, hsz78, _⟩ := info_parts info44
           have hroom78 : l0_4.length ≤ c0_4 := HC0_4.out
           have hC78 : Kd.C k44 _ (some ad921) l0_4.length l0_4 := HR0_4.out
           have hcut78 := cut_to (P := Try.prog) 37 44 .i64 Try.underlying37 hi078 (some ad921) l0_4.length c0_4 x8_2 (of_decide_eq_true (by with_reducible assumption)) q78 hroom78
           have hr78 := Kd.C_take (m := (x8_2 : Int).toNat) hC78 (by omega)
           have hy78 : y923.length = (x8_2 : Int).toNat := (by rw [Ny923.out, List.length_take]; omega)
           rw [← Ny923.out] at hr78
           rw [← hy78] at hcut78
           have HR926 := Aside0.mk hr78
           have HC926 := Aside0.mk (show y923.length ≤ c0_4 from by omega)
           clear hr78 hC78 hroom78 hi078 hsz78
           have KY78 := Aside0.mk hy78
           clear hy78
           replace q78 := eq_true q78
           have q79 : (x8_2 : Int) ≤ ((l0_4.length : Int) : Int) := of_decide_eq_true (by with_reducible assumption)
           obtain ⟨i079, hi079, _, hsz79, _⟩ := info_parts info44
           have hroom79 : l0_4.length ≤ c0_4 := HC0_4.out
           have hC79 : Kd.C k44 _ (some ad921) l0_4.length l0_4 := HR0_4.out
           have q079 : (0 : Int) ≤ (x8_2 : Int) := of_decide_eq_true (by with_reducible assumption)
           have hcut79 := cut_from (P := Try.prog) 37 44 .i64 Try.underlying37 hi079 4 hsz79 (some ad921) l0_4.length c0_4 x8_2 q079 q79
           have hr79 := Kd.C_drop (m := (x8_2 : Int).toNat) (c := c0_4) hC79 (by omega) hroom79
           obtain ⟨A79, hA79⟩ : ∃ A1, A1 = (if c0_4 = (x8_2 : Int).toNat then (some ad921) else ((some ad921) : Option Addr).map (·.add ((x8_2 : Int).toNat * 4))) := ⟨_, rfl⟩
           obtain ⟨c79, hc79⟩ : ∃ c1, c1 = c0_4 - (x8_2 : Int).toNat := ⟨_, rfl⟩
           have hy79 : y934.length = l0_4.length - (x8_2 : Int).toNat := (by rw [Ny934.out, List.length_drop] <;> omega)
           rw [show (l0_4).drop (x8_2 : Int).toNat = y934 from Ny934.out.symm] at hr79
           replace hr79 : Kd.C k44 _ A79 y934.length y934 := (by rw [hA79]; exact hr79)
           rw [← hy79, ← hA79, ← hc79] at hcut79
           have HR937 := Aside0.mk hr79
           have HC937 := Aside0.mk (show y934.length ≤ c79 from by rw [hy79, hc79]; exact Nat.sub_le_sub_right hroom79 _)
           clear hr79 hC79 hroom79 hi079 hsz79 hc79
           have KY79 := Aside0.mk hy79
           have KA79 := Aside0.mk hA79
           clear hy79 hA79
           replace q79 := eq_true q79
           refine start_ (n := 16) (S := fun w' => w'.cell? ⟨gb898, 0, none⟩ = some (.int .i64 a0_0) ∧ w'.cell? ⟨gb898, 1, none⟩ = some (.slice A0_1 l0_1.length c0_1) ∧ w'.cell? ⟨gb898, 2, none⟩ = some (.int .i64 a0_2) ∧ w'.cell? ⟨gb898, 3, none⟩ = some (.int .i64 a0_3) ∧ w'.cell? ⟨gb898, 4, none⟩ = some (.slice (some ad921) l0_4.length c0_4) ∧ w'.cell? ⟨gb917, 0, none⟩ = some (.slice Ao23 t911.length co23) ∧ w'.cell? ⟨gb917, 1, none⟩ = some (.int .i64 t914) ∧ w'.cell? ⟨gb917, 2, none⟩ = some (.int .i64 t915) ∧ w'.cell? ⟨gb917, 3, none⟩ = some (.string t916)) (ds := []) #[f_,f_,f_,f_,f_,f_,f_,f_,f_,f_,f_,f_,f_,f_,f_,f_] (by kernel_rfl) rfl rfl ⟨bx_ BK898.out 0, bx_ BK898.out 1, bx_ BK898.out 2, bx_ BK898.out 3, bx_ BK898.out 4, bx_ BK917.out 0, bx_ BK917.out 1, bx_ BK917.out 2, bx_ BK917.out 3⟩ (fun hHeld => ?_); refine with_tabW spec_JoinIn.tab12 spec_JoinIn.bits12 (fun HT_ HW_ => ?_)
           generalize w76.drew = w77 at HO_911001 HO_911004 HO_918000 BK898 BK899 BK900 BK910 BK917 HB HR926 HR937 hHeld ⊢
           refine pu_ 0 54 ?_ (b_ 1 15) rfl rfl HT_.out ?_ ?_ ?_ ?_; rotate_left; intro w'; go_simp; with_reducible rfl; rotate_left; simp only [fr_]; rfl
           refine pu_ 2 56 ?_ #[t_,f_,t_,f_,f_,f_,f_,f_,f_,f_,f_,f_,f_,f_,f_,f_] rfl rfl HT_.out ?_ ?_ ?_ ?_; rotate_left; intro w'; go_simp; with_reducible rfl; rotate_left; simp only [fr_]; rfl
           refine pu_ 8 62 ?_ #[t_,f_,t_,f_,f_,f_,f_,f_,t_,f_,f_,f_,f_,f_,f_,f_] rfl rfl HT_.out ?_ ?_ ?_ ?_; rotate_left; intro w'; go_simp; with_reducible rfl; rotate_left; simp only [fr_]; rfl
           refine pu_ 10 64 ?_ #[t_,f_,t_,f_,f_,f_,f_,f_,t_,f_,t_,f_,f_,f_,f_,f_] rfl rfl HT_.out ?_ ?_ ?_ ?_; rotate_left; intro w'; go_simp; with_reducible rfl; rotate_left; simp only [fr_]; rfl
           refine take_ (i := 1) (N := some 55) (v := ?_) (a' := ?_) #[t_,t_,t_,f_,f_,f_,f_,f_,t_,f_,t_,f_,f_,f_,f_,f_] rfl rfl (take_ofW HT_.out HW_.out (by kernel_rfl)) (fun _ _ _ h => h) (Or.inl ⟨by rfl, ?_⟩) hHeld ?_ ?_
           rotate_left
           ·
            rintro w' ⟨s0, s1, s2, s3, s4, s5, s6, s7, s8⟩
            go_simp
            with_reducible rfl
           rotate_left
           ·
            simp only [fr_]
            rfl
           refine pu_ 3 57 ?_ #[t_,t_,t_,t_,f_,f_,f_,f_,t_,f_,t_,f_,f_,f_,f_,f_] rfl rfl HT_.out ?_ ?_ ?_ ?_; rotate_left; intro w'; go_simp; with_reducible rfl; rotate_left; simp only [fr_]; rfl
           refine take_ (i := 5) (N := some 59) (v := ?_) (a' := ?_) #[t_,t_,t_,t_,f_,t_,f_,f_,t_,f_,t_,f_,f_,f_,f_,f_] rfl rfl (take_ofW HT_.out HW_.out (by kernel_rfl)) (fun _ _ _ h => h) (Or.inl ⟨by rfl, ?_⟩) hHeld ?_ ?_
           rotate_left
           ·
            rintro w' ⟨s0, s1, s2, s3, s4, s5, s6, s7, s8⟩
            go_simp
            with_reducible rfl
           rotate_left
           ·
            simp only [fr_]
            rfl
           refine take_ (i := 9) (N := some 63) (v := ?_) (a' := ?_) #[t_,t_,t_,t_,f_,t_,f_,f_,t_,t_,t_,f_,f_,f_,f_,f_] rfl rfl (take_ofW HT_.out HW_.out (by kernel_rfl)) (fun _ _ _ h => h) (Or.inl ⟨by rfl, ?_⟩) hHeld ?_ ?_
           rotate_left
           ·
            rintro w' ⟨s0, s1, s2, s3, s4, s5, s6, s7, s8⟩
            go_simp
            with_reducible rfl
           rotate_left
           ·
            simp only [fr_]
            rfl
           refine pu_ 11 65 ?_ #[t_,t_,t_,t_,f_,t_,f_,f_,t_,t_,t_,t_,f_,f_,f_,f_] rfl rfl HT_.out ?_ ?_ ?_ ?_; rotate_left; intro w'; go_simp; with_reducible rfl; rotate_left; simp only [fr_]; rfl
           refine join_ (σ := Value × Nat × Nat) 5 #[t_,t_,t_,t_,t_,t_,t_,f_,t_,t_,t_,t_,f_,f_,f_,f_] (fun s_ => [(58, s_.1), (60, .slice (some ⟨s_.2.2, 0, none⟩) 1 1)]) (fun s_ w' => (w'.cell? ⟨gb898, 0, none⟩ = some (.int .i64 a0_0) ∧ w'.cell? ⟨gb898, 1, none⟩ = some (.slice A0_1 l0_1.length c0_1) ∧ w'.cell? ⟨gb898, 2, none⟩ = some (.int .i64 a0_2) ∧ w'.cell? ⟨gb898, 3, none⟩ = some (.int .i64 a0_3) ∧ w'.cell? ⟨gb898, 4, none⟩ = some (.slice (some ad921) l0_4.length c0_4) ∧ w'.cell? ⟨gb917, 0, none⟩ = some (.slice Ao23 t911.length co23) ∧ w'.cell? ⟨gb917, 1, none⟩ = some (.int .i64 t914) ∧ w'.cell? ⟨gb917, 2, none⟩ = some (.int .i64 t915) ∧ w'.cell? ⟨gb917, 3, none⟩ = some (.string t916)) ∧ (Kd.S k44 44 w' w.heap.size (fun k_ => k_ ≠ gb899 ∧ k_ ≠ gb917 ∧ k_ ≠ s_.2.2 ∧ s_.2.1 ≤ k_) s_.1 t927) ∧ (Kd.R k164 164 w' w.heap.size (fun k_ => some k_ ≠ (.slice Ao23 t911.length co23 : Value).ownBlock ∧ k_ < s_.2.1) (.slice Ao17 t902.length co17) t902) ∧ (Kd.S k44 44 w' w.heap.size (fun k_ => some k_ ≠ (.slice Ao17 t902.length co17 : Value).ownBlock ∧ some k_ ≠ (.slice Ao23 t911.length co23 : Value).ownBlock ∧ k_ ≠ gb899 ∧ k_ ≠ gb917 ∧ k_ ≠ s_.2.2 ∧ k_ < s_.2.1) u911004 x911004_1) ∧ (Kd.R k164 164 w' w.heap.size (fun k_ => some k_ ≠ (.slice Ao17 t902.length co17 : Value).ownBlock ∧ k_ < s_.2.1) (.slice Ao23 t911.length co23) t911) ∧ (w'.heap[gb898]? = some (.cells #[.int .i64 a0_0, .slice A0_1 l0_1.length c0_1, .int .i64 a0_2, .int .i64 a0_3, .slice (some ad921) l0_4.length c0_4] 75 (0, 0))) ∧ (w'.heap[gb899]? = some (.cells #[.slice A1_0 l1_0.length c1_0, .int .i64 a1_1, .int .i64 a1_2, .string a1_3] 44 (0, 0))) ∧ (w'.heap[gb900]? = some (.cells #[.int .i64 x901000_1, .slice none 0 0, .int .i64 x901002_1, .int .i64 x901003_1, .slice none 0 0] 75 (0, 0))) ∧ (w'.heap[gb910]? = some (.cells #[.int .i64 t901, .slice Ao17 t902.length co17, .int .i64 t905, .int .i64 t906, u911004] 75 (0, 0))) ∧ (w'.heap[gb917]? = some (.cells #[.slice Ao23 t911.length co23, .int .i64 t914, .int .i64 t915, .string t916] 44 (0, 0))) ∧ (w'.heap[s_.2.2]? = some (.cells #[.slice Ao23 t911.length co23, .int .i64 t914, .int .i64 t915, .string t916] 44 (0, 0))) ∧ (w.heap.size ≤ s_.2.2) ∧ (w.heap.size ≤ s_.2.2) ∧ (gb898 ≠ s_.2.2) ∧ (s_.2.2 ≠ gb898) ∧ (gb899 ≠ s_.2.2) ∧ (s_.2.2 ≠ gb899) ∧ (gb900 ≠ s_.2.2) ∧ (s_.2.2 ≠ gb900) ∧ (gb910 ≠ s_.2.2) ∧ (s_.2.2 ≠ gb910) ∧ (gb917 ≠ s_.2.2) ∧ (s_.2.2 ≠ gb917) ∧ (Below w.heap.size w w')) ?_ ?_
           rotate_left
           ·
            intro hCont
            refine two_ (i := 4) (j := 6) (Ni := some 58) (Nj := some 60) #[t_,t_,t_,t_,t_,t_,f_,f_,t_,t_,t_,t_,f_,f_,f_,f_] #[t_,t_,t_,t_,f_,t_,t_,f_,t_,t_,t_,t_,f_,f_,f_,f_] rfl rfl rfl rfl (two_of HT_.out (by kernel_rfl)) (by decide) (by decide) (fun K hK => ?_) (fun K hK => ?_)
            ·
             skip
             refine goes_ Try.func100 (by kernel_rfl) rfl #[.slice (some ad921) y923.length c0_4] (by rfl) rfl rfl (by (try simp only [mp_]); first | done | rfl | (simp only [List.length_drop, List.length_take]; rfl)) ?_
             with_reducible refine (spec_l4All.calls k2 _ _ y923 t927 _ ?side1 ?side2 A70.out).mono ?_
             (case side1 => exact cp_ ((Kd.C_below HR926.out HB.out)))
             (case side2 => exact HC926.out)
             rintro e w80 ⟨v928, rfl, ho0, hb⟩
             refine ⟨_, rfl, ?_⟩
             obtain ⟨gbz928, hz928⟩ := Kd.S_name ho0
             replace HO_911001 := Aside0.mk (Kd.R_below (Kd.R_ltz hz928 (rp_ HO_911001.out)) hb)
             replace HO_911004 := Aside0.mk (Kd.S_below (Kd.S_ltz hz928 (sp_ HO_911004.out)) hb)
             replace HO_918000 := Aside0.mk (Kd.R_below (Kd.R_ltz hz928 (rp_ HO_918000.out)) hb)
             have HO929 := Aside0.mk (Kd.S_lower (Kd.S_newB (Kd.S_newB (Kd.S_gez hz928 ho0) (g := gb899) (o := .cells #[.slice A1_0 l1_0.length c1_0, .int .i64 a1_1, .int .i64 a1_2, .string a1_3] 44 (0, 0)) (pb_ BK899.out)) (g := gb917) (o := .cells #[.slice Ao23 t911.length co23, .int .i64 t914, .int .i64 t915, .string t916] 44 (0, 0)) (pb_ BK917.out)) (below_size (by repeat (first | (with_reducible first | exact HB.out | apply ba_ | apply bn_ | apply bd_ | apply bs_ GE898 | apply bs_ GE899 | apply bs_ GE900 | apply bs_ GE910 | apply bs_ GE917) | exact HB.out))))
             replace BK898 := Aside0.mk (bb_ BK898.out hb)
             replace BK899 := Aside0.mk (bb_ BK899.out hb)
             replace BK900 := Aside0.mk (bb_ BK900.out hb)
             replace BK910 := Aside0.mk (bb_ BK910.out hb)
             replace BK917 := Aside0.mk (bb_ BK917.out hb)
             replace HB := Aside0.mk (below_step (by repeat (first | (with_reducible first | exact HB.out | apply ba_ | apply bn_ | apply bd_ | apply bs_ GE898 | apply bs_ GE899 | apply bs_ GE900 | apply bs_ GE910 | apply bs_ GE917) | exact HB.out)) hb)
             (try clear hb)
             (try clear hb2)
             (try clear hk)
             (try clear hi)
             (try clear ho0)
             refine hK.out _ _ ⟨bx_ BK898.out 0, bx_ BK898.out 1, bx_ BK898.out 2, bx_ BK898.out 3, bx_ BK898.out 4, bx_ BK917.out 0, bx_ BK917.out 1, bx_ BK917.out 2, bx_ BK917.out 3⟩ (fun hHeld => ?_)
             clear hK K
             refine norm_ (a' := ?_) ?_ ?_
             rotate_left
             ·
              show Act.put _ (some 58) _ = _
              simp only [fr_]
              rfl
             refine one_ (i := 6) (N := some 60) #[t_,t_,t_,t_,t_,t_,t_,f_,t_,t_,t_,t_,f_,f_,f_,f_] rfl rfl (one_of HT_.out (by kernel_rfl)) (by decide) (fun K hK => ?_)
             refine box_stepL ?hg (N := 60) ?hd (cs := #[.slice Ao23 t911.length co23, .int .i64 t914, .int .i64 t915, .string t916]) (t := 44) ?hr ?_; (case hd => rfl); (case hg => rfl); (case hr => first | (go_simp; done) | (go_simp; rfl))
             intro gb930 hg w81 hbox hb
             have n0_ := Aside0.mk (Kd.R_below (rp_ HO_911001.out) hb)
             have n1_ := Aside0.mk (Kd.S_below (Kd.S_elderB (sp_ HO_911004.out) gb930 (Nat.le_of_eq hg.symm)) hb)
             have n2_ := Aside0.mk (Kd.R_below (rp_ HO_918000.out) hb)
             have n3_ := Aside0.mk (Kd.S_below (Kd.S_elderB (sp_ HO929.out) gb930 (Nat.le_of_eq hg.symm)) hb)
             have n4_ := Aside0.mk (bb_ BK898.out hb)
             have n5_ := Aside0.mk (bb_ BK899.out hb)
             have n6_ := Aside0.mk (bb_ BK900.out hb)
             have n7_ := Aside0.mk (bb_ BK910.out hb)
             have n8_ := Aside0.mk (bb_ BK917.out hb)
             have n9_ := Aside0.mk (below_step (by repeat (first | (with_reducible first | exact HB.out | apply ba_ | apply bn_ | apply bd_ | apply bs_ GE898 | apply bs_ GE899 | apply bs_ GE900 | apply bs_ GE910 | apply bs_ GE917) | exact HB.out)) hb)
             have n10_ := Aside0.mk (hbox)
             have n11_ := Aside0.mk ((by rw [hg]; exact (below_size (by repeat (first | (with_reducible first | exact HB.out | apply ba_ | apply bn_ | apply bd_ | apply bs_ GE898 | apply bs_ GE899 | apply bs_ GE900 | apply bs_ GE910 | apply bs_ GE917) | exact HB.out))) : w.heap.size ≤ gb930))
             have n12_ := Aside0.mk ((by rw [hg]; exact (below_size (by repeat (first | (with_reducible first | exact HB.out | apply ba_ | apply bn_ | apply bd_ | apply bs_ GE898 | apply bs_ GE899 | apply bs_ GE900 | apply bs_ GE910 | apply bs_ GE917) | exact HB.out))) : w.heap.size ≤ gb930))
             have n13_ := Aside0.mk (nl_ BK898.out hg)
             have n14_ := Aside0.mk (ng_ BK898.out hg)
             have n15_ := Aside0.mk (nl_ BK899.out hg)
             have n16_ := Aside0.mk (ng_ BK899.out hg)
             have n17_ := Aside0.mk (nl_ BK900.out hg)
             have n18_ := Aside0.mk (ng_ BK900.out hg)
             have n19_ := Aside0.mk (nl_ BK910.out hg)
             have n20_ := Aside0.mk (ng_ BK910.out hg)
             have n21_ := Aside0.mk (nl_ BK917.out hg)
             have n22_ := Aside0.mk (ng_ BK917.out hg)
             clear HO_911001 HO_911004 HO_918000 HO929 BK898 BK899 BK900 BK910 BK917 HB
             have HO_911001 := n0_
             have HO_911004 := n1_
             have HO_918000 := n2_
             have HO929 := n3_
             have BK898 := n4_
             have BK899 := n5_
             have BK900 := n6_
             have BK910 := n7_
             have BK917 := n8_
             have HB := n9_
             have BK930 := n10_
             have GW930 := n11_
             have GE930 := n12_
             have NB898_930 := n13_
             have NB930_898 := n14_
             have NB899_930 := n15_
             have NB930_899 := n16_
             have NB900_930 := n17_
             have NB930_900 := n18_
             have NB910_930 := n19_
             have NB930_910 := n20_
             have NB917_930 := n21_
             have NB930_917 := n22_
             clear n0_ n1_ n2_ n3_ n4_ n5_ n6_ n7_ n8_ n9_ n10_ n11_ n12_ n13_ n14_ n15_ n16_ n17_ n18_ n19_ n20_ n21_ n22_ hb hbox hg
             refine hK.out _ _ ⟨bx_ BK898.out 0, bx_ BK898.out 1, bx_ BK898.out 2, bx_ BK898.out 3, bx_ BK898.out 4, bx_ BK917.out 0, bx_ BK917.out 1, bx_ BK917.out 2, bx_ BK917.out 3⟩ (fun hHeld => ?_)
             clear hK K
             refine norm_ (a' := ?_) ?_ ?_
             rotate_left
             ·
              show Act.put _ (some 60) _ = _
              simp only [fr_]
              rfl
             exact norm_ (by simp only [putAll, Act.put, List.setIfInBounds_toArray, List.set_cons_zero, List.set_cons_succ]) (hCont (v928, gbz928, gb930) _ ⟨hHeld, (by (with_reducible repeat (first | apply Kd.S_alloc | apply Kd.S_drewN | apply Kd.S_drew)); exact Kd.S_mono HO929.out (fun _ hk => ⟨hk.1.1.2, ⟨hk.1.2, ⟨hk.2, hk.1.1.1.2⟩⟩⟩)), (rp_ HO_911001.out), (by (with_reducible repeat (first | apply Kd.S_alloc | apply Kd.S_drewN | apply Kd.S_drew)); exact Kd.S_mono HO_911004.out (fun _ hk => ⟨hk.1.1.1, ⟨hk.1.1.2.1, ⟨hk.1.1.2.2.1, ⟨hk.1.1.2.2.2, ⟨hk.2, hk.1.2⟩⟩⟩⟩⟩)), (rp_ HO_918000.out), (pb_ BK898.out), (pb_ BK899.out), (pb_ BK900.out), (pb_ BK910.out), (pb_ BK917.out), (pb_ BK930.out), GW930.out, GE930.out, NB898_930.out, NB930_898.out, NB899_930.out, NB930_899.out, NB900_930.out, NB930_900.out, NB910_930.out, NB930_910.out, NB917_930.out, NB930_917.out, (by repeat (first | (with_reducible first | exact HB.out | apply ba_ | apply bn_ | apply bd_ | apply bs_ GE898 | apply bs_ GE899 | apply bs_ GE900 | apply bs_ GE910 | apply bs_ GE917 | apply bs_ GE930) | exact HB.out))⟩)
            skip
            refine box_stepL ?hg (N := 60) ?hd (cs := #[.slice Ao23 t911.length co23, .int .i64 t914, .int .i64 t915, .string t916]) (t := 44) ?hr ?_; (case hd => rfl); (case hg => rfl); (case hr => first | (go_simp; done) | (go_simp; rfl))
            intro gb930 hg w80 hbox hb
            have n0_ := Aside0.mk (Kd.R_below (rp_ HO_911001.out) hb)
            have n1_ := Aside0.mk (Kd.S_below (Kd.S_elderB (sp_ HO_911004.out) gb930 (Nat.le_of_eq hg.symm)) hb)
            have n2_ := Aside0.mk (Kd.R_below (rp_ HO_918000.out) hb)
            have n3_ := Aside0.mk (bb_ BK898.out hb)
            have n4_ := Aside0.mk (bb_ BK899.out hb)
            have n5_ := Aside0.mk (bb_ BK900.out hb)
            have n6_ := Aside0.mk (bb_ BK910.out hb)
            have n7_ := Aside0.mk (bb_ BK917.out hb)
            have n8_ := Aside0.mk (below_step (by repeat (first | (with_reducible first | exact HB.out | apply ba_ | apply bn_ | apply bd_ | apply bs_ GE898 | apply bs_ GE899 | apply bs_ GE900 | apply bs_ GE910 | apply bs_ GE917) | exact HB.out)) hb)
            have n9_ := Aside0.mk (hbox)
            have n10_ := Aside0.mk ((by rw [hg]; exact (below_size (by repeat (first | (with_reducible first | exact HB.out | apply ba_ | apply bn_ | apply bd_ | apply bs_ GE898 | apply bs_ GE899 | apply bs_ GE900 | apply bs_ GE910 | apply bs_ GE917) | exact HB.out))) : w.heap.size ≤ gb930))
            have n11_ := Aside0.mk ((by rw [hg]; exact (below_size (by repeat (first | (with_reducible first | exact HB.out | apply ba_ | apply bn_ | apply bd_ | apply bs_ GE898 | apply bs_ GE899 | apply bs_ GE900 | apply bs_ GE910 | apply bs_ GE917) | exact HB.out))) : w.heap.size ≤ gb930))
            have n12_ := Aside0.mk (nl_ BK898.out hg)
            have n13_ := Aside0.mk (ng_ BK898.out hg)
            have n14_ := Aside0.mk (nl_ BK899.out hg)
            have n15_ := Aside0.mk (ng_ BK899.out hg)
            have n16_ := Aside0.mk (nl_ BK900.out hg)
            have n17_ := Aside0.mk (ng_ BK900.out hg)
            have n18_ := Aside0.mk (nl_ BK910.out hg)
            have n19_ := Aside0.mk (ng_ BK910.out hg)
            have n20_ := Aside0.mk (nl_ BK917.out hg)
            have n21_ := Aside0.mk (ng_ BK917.out hg)
            clear HO_911001 HO_911004 HO_918000 BK898 BK899 BK900 BK910 BK917 HB
            have HO_911001 := n0_
            have HO_911004 := n1_
            have HO_918000 := n2_
            have BK898 := n3_
            have BK899 := n4_
            have BK900 := n5_
            have BK910 := n6_
            have BK917 := n7_
            have HB := n8_
            have BK930 := n9_
            have GW930 := n10_
            have GE930 := n11_
            have NB898_930 := n12_
            have NB930_898 := n13_
            have NB899_930 := n14_
            have NB930_899 := n15_
            have NB900_930 := n16_
            have NB930_900 := n17_
            have NB910_930 := n18_
            have NB930_910 := n19_
            have NB917_930 := n20_
            have NB930_917 := n21_
            clear n0_ n1_ n2_ n3_ n4_ n5_ n6_ n7_ n8_ n9_ n10_ n11_ n12_ n13_ n14_ n15_ n16_ n17_ n18_ n19_ n20_ n21_ hb hbox hg
            refine hK.out _ _ ⟨bx_ BK898.out 0, bx_ BK898.out 1, bx_ BK898.out 2, bx_ BK898.out 3, bx_ BK898.out 4, bx_ BK917.out 0, bx_ BK917.out 1, bx_ BK917.out 2, bx_ BK917.out 3⟩ (fun hHeld => ?_)
            clear hK K
            refine norm_ (a' := ?_) ?_ ?_
            rotate_left
            ·
             show Act.put _ (some 60) _ = _
             simp only [fr_]
             rfl
            refine one_ (i := 4) (N := some 58) #[t_,t_,t_,t_,t_,t_,t_,f_,t_,t_,t_,t_,f_,f_,f_,f_] rfl rfl (one_of HT_.out (by kernel_rfl)) (by decide) (fun K hK => ?_)
            refine goes_ Try.func100 (by kernel_rfl) rfl #[.slice (some ad921) y923.length c0_4] (by rfl) rfl rfl (by (try simp only [mp_]); first | done | rfl | (simp only [List.length_drop, List.length_take]; rfl)) ?_
            with_reducible refine (spec_l4All.calls k2 _ _ y923 t927 _ ?side1 ?side2 A70.out).mono ?_
            (case side1 => exact cp_ ((Kd.C_below HR926.out HB.out)))
            (case side2 => exact HC926.out)
            rintro e w81 ⟨v928, rfl, ho0, hb⟩
            refine ⟨_, rfl, ?_⟩
            obtain ⟨gbz928, hz928⟩ := Kd.S_name ho0
            replace HO_911001 := Aside0.mk (Kd.R_below (Kd.R_ltz hz928 (rp_ HO_911001.out)) hb)
            replace HO_911004 := Aside0.mk (Kd.S_below (Kd.S_ltz hz928 (sp_ HO_911004.out)) hb)
            replace HO_918000 := Aside0.mk (Kd.R_below (Kd.R_ltz hz928 (rp_ HO_918000.out)) hb)
            have HO929 := Aside0.mk (Kd.S_lower (Kd.S_newB (Kd.S_newB (Kd.S_newB (Kd.S_gez hz928 ho0) (g := gb899) (o := .cells #[.slice A1_0 l1_0.length c1_0, .int .i64 a1_1, .int .i64 a1_2, .string a1_3] 44 (0, 0)) (pb_ BK899.out)) (g := gb917) (o := .cells #[.slice Ao23 t911.length co23, .int .i64 t914, .int .i64 t915, .string t916] 44 (0, 0)) (pb_ BK917.out)) (g := gb930) (o := .cells #[.slice Ao23 t911.length co23, .int .i64 t914, .int .i64 t915, .string t916] 44 (0, 0)) (pb_ BK930.out)) (below_size (by repeat (first | (with_reducible first | exact HB.out | apply ba_ | apply bn_ | apply bd_ | apply bs_ GE898 | apply bs_ GE899 | apply bs_ GE900 | apply bs_ GE910 | apply bs_ GE917 | apply bs_ GE930) | exact HB.out))))
            replace BK898 := Aside0.mk (bb_ BK898.out hb)
            replace BK899 := Aside0.mk (bb_ BK899.out hb)
            replace BK900 := Aside0.mk (bb_ BK900.out hb)
            replace BK910 := Aside0.mk (bb_ BK910.out hb)
            replace BK917 := Aside0.mk (bb_ BK917.out hb)
            replace BK930 := Aside0.mk (bb_ BK930.out hb)
            replace HB := Aside0.mk (below_step (by repeat (first | (with_reducible first | exact HB.out | apply ba_ | apply bn_ | apply bd_ | apply bs_ GE898 | apply bs_ GE899 | apply bs_ GE900 | apply bs_ GE910 | apply bs_ GE917 | apply bs_ GE930) | exact HB.out)) hb)
            (try clear hb)
            (try clear hb2)
            (try clear hk)
            (try clear hi)
            (try clear ho0)
            refine hK.out _ _ ⟨bx_ BK898.out 0, bx_ BK898.out 1, bx_ BK898.out 2, bx_ BK898.out 3, bx_ BK898.out 4, bx_ BK917.out 0, bx_ BK917.out 1, bx_ BK917.out 2, bx_ BK917.out 3⟩ (fun hHeld => ?_)
            clear hK K
            refine norm_ (a' := ?_) ?_ ?_
            rotate_left
            ·
             show Act.put _ (some 58) _ = _
             simp only [fr_]
             rfl
            exact norm_ (by simp only [putAll, Act.put, List.setIfInBounds_toArray, List.set_cons_zero, List.set_cons_succ]) (hCont (v928, gbz928, gb930) _ ⟨hHeld, (by (with_reducible repeat (first | apply Kd.S_alloc | apply Kd.S_drewN | apply Kd.S_drew)); exact Kd.S_mono HO929.out (fun _ hk => ⟨hk.1.1.2, ⟨hk.1.2, ⟨hk.2, hk.1.1.1.2⟩⟩⟩)), (rp_ HO_911001.out), (by (with_reducible repeat (first | apply Kd.S_alloc | apply Kd.S_drewN | apply Kd.S_drew)); exact Kd.S_mono HO_911004.out (fun _ hk => ⟨hk.1.1.1, ⟨hk.1.1.2.1, ⟨hk.1.1.2.2.1, ⟨hk.1.1.2.2.2, ⟨hk.1.2, hk.2⟩⟩⟩⟩⟩)), (rp_ HO_918000.out), (pb_ BK898.out), (pb_ BK899.out), (pb_ BK900.out), (pb_ BK910.out), (pb_ BK917.out), (pb_ BK930.out), GW930.out, GE930.out, NB898_930.out, NB930_898.out, NB899_930.out, NB930_899.out, NB900_930.out, NB930_900.out, NB910_930.out, NB930_910.out, NB917_930.out, NB930_917.out, (by repeat (first | (with_reducible first | exact HB.out | apply ba_ | apply bn_ | apply bd_ | apply bs_ GE898 | apply bs_ GE899 | apply bs_ GE900 | apply bs_ GE910 | apply bs_ GE917 | apply bs_ GE930) | exact HB.out))⟩)
           rintro ⟨v928, gbz928, gb930⟩ w82 ⟨hS_, h0_, h1_, h2_, h3_, h4_, h5_, h6_, h7_, h8_, h9_, h10_, h11_, h12_, h13_, h14_, h15_, h16_, h17_, h18_, h19_, h20_, h21_, h22_⟩
           have HO929 : Aside0 (Kd.S k44 44 w82 w.heap.size (fun k_ => k_ ≠ gb899 ∧ k_ ≠ gb917 ∧ k_ ≠ gb930 ∧ gbz928 ≤ k_) v928 t927) := ⟨h0_⟩
           replace HO_911001 : Aside0 (Kd.R k164 164 w82 w.heap.size (fun k_ => some k_ ≠ (.slice Ao23 t911.length co23 : Value).ownBlock ∧ k_ < gbz928) (.slice Ao17 t902.length co17) t902) := ⟨h1_⟩
           replace HO_911004 : Aside0 (Kd.S k44 44 w82 w.heap.size (fun k_ => some k_ ≠ (.slice Ao17 t902.length co17 : Value).ownBlock ∧ some k_ ≠ (.slice Ao23 t911.length co23 : Value).ownBlock ∧ k_ ≠ gb899 ∧ k_ ≠ gb917 ∧ k_ ≠ gb930 ∧ k_ < gbz928) u911004 x911004_1) := ⟨h2_⟩
           replace HO_918000 : Aside0 (Kd.R k164 164 w82 w.heap.size (fun k_ => some k_ ≠ (.slice Ao17 t902.length co17 : Value).ownBlock ∧ k_ < gbz928) (.slice Ao23 t911.length co23) t911) := ⟨h3_⟩
           replace BK898 : Aside0 (w82.heap[gb898]? = some (.cells #[.int .i64 a0_0, .slice A0_1 l0_1.length c0_1, .int .i64 a0_2, .int .i64 a0_3, .slice (some ad921) l0_4.length c0_4] 75 (0, 0))) := ⟨h4_⟩
           replace BK899 : Aside0 (w82.heap[gb899]? = some (.cells #[.slice A1_0 l1_0.length c1_0, .int .i64 a1_1, .int .i64 a1_2, .string a1_3] 44 (0, 0))) := ⟨h5_⟩
           replace BK900 : Aside0 (w82.heap[gb900]? = some (.cells #[.int .i64 x901000_1, .slice none 0 0, .int .i64 x901002_1, .int .i64 x901003_1, .slice none 0 0] 75 (0, 0))) := ⟨h6_⟩
           replace BK910 : Aside0 (w82.heap[gb910]? = some (.cells #[.int .i64 t901, .slice Ao17 t902.length co17, .int .i64 t905, .int .i64 t906, u911004] 75 (0, 0))) := ⟨h7_⟩
           replace BK917 : Aside0 (w82.heap[gb917]? = some (.cells #[.slice Ao23 t911.length co23, .int .i64 t914, .int .i64 t915, .string t916] 44 (0, 0))) := ⟨h8_⟩
           have BK930 : Aside0 (w82.heap[gb930]? = some (.cells #[.slice Ao23 t911.length co23, .int .i64 t914, .int .i64 t915, .string t916] 44 (0, 0))) := ⟨h9_⟩
           have GW930 : Aside0 (w.heap.size ≤ gb930) := ⟨h10_⟩
           have GE930 : Aside0 (w.heap.size ≤ gb930) := ⟨h11_⟩
           have NB898_930 : Aside0 (gb898 ≠ gb930) := ⟨h12_⟩
           have NB930_898 : Aside0 (gb930 ≠ gb898) := ⟨h13_⟩
           have NB899_930 : Aside0 (gb899 ≠ gb930) := ⟨h14_⟩
           have NB930_899 : Aside0 (gb930 ≠ gb899) := ⟨h15_⟩
           have NB900_930 : Aside0 (gb900 ≠ gb930) := ⟨h16_⟩
           have NB930_900 : Aside0 (gb930 ≠ gb900) := ⟨h17_⟩
           have NB910_930 : Aside0 (gb910 ≠ gb930) := ⟨h18_⟩
           have NB930_910 : Aside0 (gb930 ≠ gb910) := ⟨h19_⟩
           have NB917_930 : Aside0 (gb917 ≠ gb930) := ⟨h20_⟩
           have NB930_917 : Aside0 (gb930 ≠ gb917) := ⟨h21_⟩
           replace HB : Aside0 (Below w.heap.size w w82) := ⟨h22_⟩
           clear h0_ h1_ h2_ h3_ h4_ h5_ h6_ h7_ h8_ h9_ h10_ h11_ h12_ h13_ h14_ h15_ h16_ h17_ h18_ h19_ h20_ h21_ h22_
           have hHeld : w82.cell? ⟨gb898, 0, none⟩ = some (.int .i64 a0_0) ∧ w82.cell? ⟨gb898, 1, none⟩ = some (.slice A0_1 l0_1.length c0_1) ∧ w82.cell? ⟨gb898, 2, none⟩ = some (.int .i64 a0_2) ∧ w82.cell? ⟨gb898, 3, none⟩ = some (.int .i64 a0_3) ∧ w82.cell? ⟨gb898, 4, none⟩ = some (.slice (some ad921) l0_4.length c0_4) ∧ w82.cell? ⟨gb917, 0, none⟩ = some (.slice Ao23 t911.length co23) ∧ w82.cell? ⟨gb917, 1, none⟩ = some (.int .i64 t914) ∧ w82.cell? ⟨gb917, 2, none⟩ = some (.int .i64 t915) ∧ w82.cell? ⟨gb917, 3, none⟩ = some (.string t916) := hS_
           refine norm_ (a' := ?_) ?_ ?_
           rotate_left
           ·
            simp only [putAll, Act.put, List.setIfInBounds_toArray, List.set_cons_zero, List.set_cons_succ]
            rfl
           refine one_ (i := 7) (N := some 61) #[t_,t_,t_,t_,t_,t_,t_,t_,t_,t_,t_,t_,f_,f_,f_,f_] rfl rfl (one_of HT_.out (by kernel_rfl)) (by decide) (fun K hK => ?_)
           refine Kd.S_append_box_step k44 (w0 := w) w.heap.size (by rfl) (.tmp 58) (.tmp 60) 37 44 (.agg #[(.slice none 0 0), (.int .i64 0), (.int .i64 0), (.string ⟨#[]⟩)]) 56 rfl Try.underlying37 info44 rfl (by decide) (by omega) v928 t927 (⟨t911, t914, t915, t916⟩ : S44) [.slice Ao23 t911.length co23, .int .i64 t914, .int .i64 t915, .string t916] (fun k_ => some k_ ≠ (.slice Ao17 t902.length co17 : Value).ownBlock ∧ some k_ ≠ (u911004 : Value).ownBlock ∧ k_ ≠ gb899 ∧ k_ ≠ gb917 ∧ k_ ≠ gb930) (fun k_ => some k_ = (.slice Ao23 t911.length co23 : Value).ownBlock) gb930 (pb_ BK930.out) rfl rfl ?aP (fun k_ hk_ => ((Kd.R_mono (ok' := fun k_ => ((fun k_ => some k_ ≠ (.slice Ao17 t902.length co17 : Value).ownBlock ∧ some k_ ≠ (u911004 : Value).ownBlock ∧ k_ ≠ gb899 ∧ k_ ≠ gb917 ∧ k_ ≠ gb930)) k_ ∧ some k_ ≠ (v928 : Value).ownBlock) (Kd.R_types (Kd.R_types (Kd.R_types (Kd.R_apart' (Kd.R_apart' (HO_918000.out) (Kd.S_typed HO_911004.out) (by decide)) (Kd.S_typed HO929.out) (by decide)) BK899.out (by decide)) BK917.out (by decide)) BK930.out (by decide)) (fun k_ hk => ⟨⟨hk.1.1.1.1.1.1, ⟨hk.1.1.1.1.2, ⟨hk.1.1.2, ⟨hk.1.2, hk.2⟩⟩⟩⟩, hk.1.1.1.2⟩))).1 k_ hk_.symm) ?aF ?aO ?aB ?aS ?aL ?_
           (case aP => exact k44_mkM _ _ _ (⟨t911, t914, t915, t916⟩ : S44) (Kd.R_mono (Kd.R_tight rfl (Kd.R_mono (ok' := fun k_ => ((fun k_ => some k_ ≠ (.slice Ao17 t902.length co17 : Value).ownBlock ∧ some k_ ≠ (u911004 : Value).ownBlock ∧ k_ ≠ gb899 ∧ k_ ≠ gb917 ∧ k_ ≠ gb930)) k_ ∧ some k_ ≠ (v928 : Value).ownBlock) (Kd.R_types (Kd.R_types (Kd.R_types (Kd.R_apart' (Kd.R_apart' (HO_918000.out) (Kd.S_typed HO_911004.out) (by decide)) (Kd.S_typed HO929.out) (by decide)) BK899.out (by decide)) BK917.out (by decide)) BK930.out (by decide)) (fun k_ hk => ⟨⟨hk.1.1.1.1.1.1, ⟨hk.1.1.1.1.2, ⟨hk.1.1.2, ⟨hk.1.2, hk.2⟩⟩⟩⟩, hk.1.1.1.2⟩))) (fun _ h_ => h_)))
           (case aB => exact (by repeat (first | (with_reducible first | exact HB.out | apply ba_ | apply bn_ | apply bd_ | apply bs_ GE898 | apply bs_ GE899 | apply bs_ GE900 | apply bs_ GE910 | apply bs_ GE917 | apply bs_ GE930) | exact HB.out)))
           (case aF => exact (fun k_ hk => ⟨Kd.fresh' (Kd.R_lt (rp_ HO_911001.out)) k_ hk, Kd.fresh' (Kd.S_lt (sp_ HO_911004.out)) k_ hk, Kd.freshB (g := gb899) (o := .cells #[.slice A1_0 l1_0.length c1_0, .int .i64 a1_1, .int .i64 a1_2, .string a1_3] 44 (0, 0)) (pb_ BK899.out) k_ hk, Kd.freshB (g := gb917) (o := .cells #[.slice Ao23 t911.length co23, .int .i64 t914, .int .i64 t915, .string t916] 44 (0, 0)) (pb_ BK917.out) k_ hk, Kd.freshB (g := gb930) (o := .cells #[.slice Ao23 t911.length co23, .int .i64 t914, .int .i64 t915, .string t916] 44 (0, 0)) (pb_ BK930.out) k_ hk⟩))
           (case aO => exact (by (with_reducible repeat (first | apply Kd.S_alloc | apply Kd.S_drewN | apply Kd.S_drew)); exact Kd.S_mono (Kd.S_times (Kd.S_times HO929.out HO_911001.out.1 (fun k_ hk hz_ => Nat.lt_irrefl _ (Nat.lt_of_lt_of_le hz_.2 hk.2.2.2))) (Kd.S_R HO_911004.out).1 (fun k_ hk hz_ => Nat.lt_irrefl _ (Nat.lt_of_lt_of_le hz_.2.2.2.2.2 hk.1.2.2.2))) (fun k_ hk => ⟨⟨hk.1.2, ⟨hk.2, ⟨hk.1.1.1, ⟨hk.1.1.2.1, hk.1.1.2.2.1⟩⟩⟩⟩, fun e_ => (fun ez_ => Nat.lt_irrefl _ (Nat.lt_of_lt_of_le (HO_918000.out.1 _ ez_.symm).2 hk.1.1.2.2.2)) e_⟩)))
           (case aS => exact (below_size (by repeat (first | (with_reducible first | exact HB.out | apply ba_ | apply bn_ | apply bd_ | apply bs_ GE898 | apply bs_ GE899 | apply bs_ GE900 | apply bs_ GE910 | apply bs_ GE917 | apply bs_ GE930) | exact HB.out))))
           (case aL => have := LMc71.out; omega)
           intro v932 w83 ho hb hg hat
           rw [← Ny931.out] at ho
           have n0_ := Aside0.mk (Kd.R_over' (rp_ HO_911001.out) (Kd.S_typed (sp_ HO929.out)) (by decide) hg)
           have n1_ := Aside0.mk (Kd.S_after (ok := (fun k_ => some k_ ≠ (.slice Ao17 t902.length co17 : Value).ownBlock ∧ some k_ ≠ (.slice Ao23 t911.length co23 : Value).ownBlock ∧ k_ ≠ gb899 ∧ k_ ≠ gb917 ∧ k_ ≠ gb930 ∧ k_ < gbz928)) (by (with_reducible repeat (first | apply Kd.S_alloc | apply Kd.S_drewN | apply Kd.S_drew)); exact (Kd.S_times HO_911004.out (Kd.S_R HO929.out).1 (fun k_ hk hz_ => Nat.lt_irrefl _ (Nat.lt_of_lt_of_le hk.2.2.2.2.2 hz_.2.2.2)))) hg hat)
           have n2_ := Aside0.mk (blk_grown (g := gb898) (o := .cells #[.int .i64 a0_0, .slice A0_1 l0_1.length c0_1, .int .i64 a0_2, .int .i64 a0_3, .slice (some ad921) l0_4.length c0_4] 75 (0, 0)) (pb_ BK898.out) hg (Kd.S_ne HO929.out BK898.out (by decide)))
           have n3_ := Aside0.mk (blk_grown (g := gb899) (o := .cells #[.slice A1_0 l1_0.length c1_0, .int .i64 a1_1, .int .i64 a1_2, .string a1_3] 44 (0, 0)) (pb_ BK899.out) hg (Kd.S_away HO929.out (fun _ hk => hk.1)))
           have n4_ := Aside0.mk (blk_grown (g := gb900) (o := .cells #[.int .i64 x901000_1, .slice none 0 0, .int .i64 x901002_1, .int .i64 x901003_1, .slice none 0 0] 75 (0, 0)) (pb_ BK900.out) hg (Kd.S_ne HO929.out BK900.out (by decide)))
           have n5_ := Aside0.mk (blk_grown (g := gb910) (o := .cells #[.int .i64 t901, .slice Ao17 t902.length co17, .int .i64 t905, .int .i64 t906, u911004] 75 (0, 0)) (pb_ BK910.out) hg (Kd.S_ne HO929.out BK910.out (by decide)))
           have n6_ := Aside0.mk (blk_grown (g := gb917) (o := .cells #[.slice Ao23 t911.length co23, .int .i64 t914, .int .i64 t915, .string t916] 44 (0, 0)) (pb_ BK917.out) hg (Kd.S_away HO929.out (fun _ hk => hk.2.1)))
           have n7_ := Aside0.mk (blk_grown (g := gb930) (o := .cells #[.slice Ao23 t911.length co23, .int .i64 t914, .int .i64 t915, .string t916] 44 (0, 0)) (pb_ BK930.out) hg (Kd.S_away HO929.out (fun _ hk => hk.2.2.1)))
           have n8_ := Aside0.mk (hb)
           have n9_ := Aside0.mk (ho)
           clear HO_911001 HO_911004 BK898 BK899 BK900 BK910 BK917 BK930 HB HO929 HO_918000
           have HO_911001 := n0_
           have HO_911004 := n1_
           have BK898 := n2_
           have BK899 := n3_
           have BK900 := n4_
           have BK910 := n5_
           have BK917 := n6_
           have BK930 := n7_
           have HB := n8_
           have HO933 := n9_
           clear n0_ n1_ n2_ n3_ n4_ n5_ n6_ n7_ n8_ n9_ ho hb hg hat
           refine hK.out _ _ ⟨bx_ BK898.out 0, bx_ BK898.out 1, bx_ BK898.out 2, bx_ BK898.out 3, bx_ BK898.out 4, bx_ BK917.out 0, bx_ BK917.out 1, bx_ BK917.out 2, bx_ BK917.out 3⟩ (fun hHeld => ?_)
           clear hK K
           refine norm_ (a' := ?_) ?_ ?_
           rotate_left
           ·
            show Act.put _ (some 61) _ = _
            simp only [fr_]
            rfl
           refine one_ (i := 12) (N := some 66) #[t_,t_,t_,t_,t_,t_,t_,t_,t_,t_,t_,t_,t_,f_,f_,f_] rfl rfl (one_of HT_.out (by kernel_rfl)) (by decide) (fun K hK => ?_)
           refine goes_ Try.func100 (by kernel_rfl) rfl #[.slice A79 y934.length c79] (by rfl) rfl rfl (by (try simp only [mp_]); first | done | rfl | (simp only [List.length_drop, List.length_take]; rfl)) ?_
           with_reducible refine (spec_l4All.calls k2 _ _ y934 t938 _ ?side1 ?side2 A74.out).mono ?_
           (case side1 => exact cp_ ((Kd.C_below HR937.out HB.out)))
           (case side2 => exact HC937.out)
           rintro e w84 ⟨v939, rfl, ho0, hb⟩
           refine ⟨_, rfl, ?_⟩
           obtain ⟨gbz939, hz939⟩ := Kd.S_name ho0
           replace HO_911001 := Aside0.mk (Kd.R_below (Kd.R_ltz hz939 (rp_ HO_911001.out)) hb)
           replace HO_911004 := Aside0.mk (Kd.S_below (Kd.S_ltz hz939 (sp_ HO_911004.out)) hb)
           replace HO933 := Aside0.mk (Kd.S_below (Kd.S_ltz hz939 (sp_ HO933.out)) hb)
           have HO940 := Aside0.mk (Kd.S_lower (Kd.S_newB (Kd.S_newB (Kd.S_newB (Kd.S_gez hz939 ho0) (g := gb899) (o := .cells #[.slice A1_0 l1_0.length c1_0, .int .i64 a1_1, .int .i64 a1_2, .string a1_3] 44 (0, 0)) (pb_ BK899.out)) (g := gb917) (o := .cells #[.slice Ao23 t911.length co23, .int .i64 t914, .int .i64 t915, .string t916] 44 (0, 0)) (pb_ BK917.out)) (g := gb930) (o := .cells #[.slice Ao23 t911.length co23, .int .i64 t914, .int .i64 t915, .string t916] 44 (0, 0)) (pb_ BK930.out)) (below_size (by repeat (first | (with_reducible first | exact HB.out | apply ba_ | apply bn_ | apply bd_ | apply bs_ GE898 | apply bs_ GE899 | apply bs_ GE900 | apply bs_ GE910 | apply bs_ GE917 | apply bs_ GE930) | exact HB.out))))
           replace BK898 := Aside0.mk (bb_ BK898.out hb)
           replace BK899 := Aside0.mk (bb_ BK899.out hb)
           replace BK900 := Aside0.mk (bb_ BK900.out hb)
           replace BK910 := Aside0.mk (bb_ BK910.out hb)
           replace BK917 := Aside0.mk (bb_ BK917.out hb)
           replace BK930 := Aside0.mk (bb_ BK930.out hb)
           replace HB := Aside0.mk (below_step (by repeat (first | (with_reducible first | exact HB.out | apply ba_ | apply bn_ | apply bd_ | apply bs_ GE898 | apply bs_ GE899 | apply bs_ GE900 | apply bs_ GE910 | apply bs_ GE917 | apply bs_ GE930) | exact HB.out)) hb)
           (try clear hb)
           (try clear hb2)
           (try clear hk)
           (try clear hi)
           (try clear ho0)
           obtain ⟨Ao86, co86, eo86⟩ := Kd.S_slice HO940.out
           (first | subst eo86 | (injection eo86 with f1_ f2_ f3_; have f4_ := f1_.symm; have f5_ := f3_.symm; clear f1_ f2_ f3_; subst f4_; subst f5_))
           obtain ⟨PXP87, hPXP87, hPlP87⟩ := Kd.S_fp ((Kd.S_mono (Kd.S_mono (Kd.S_mono HO940.out (fun k_ hk => (⟨hk, fun ez_ => Nat.lt_irrefl _ (Nat.lt_of_lt_of_le (HO_911001.out.1 _ ez_.symm).2 hk.1.1.1.2)⟩ : _ ∧ some k_ ≠ (.slice Ao17 t902.length co17 : Value).ownBlock))) (fun k_ hk => (⟨hk, fun ez_ => Nat.lt_irrefl _ (Nat.lt_of_lt_of_le ((Kd.S_R HO_911004.out).1 _ ez_.symm).2 hk.1.1.1.1.2)⟩ : _ ∧ some k_ ≠ (u911004 : Value).ownBlock))) (fun k_ hk => (⟨hk, fun ez_ => Nat.lt_irrefl _ (Nat.lt_of_lt_of_le ((Kd.S_R HO933.out).1 _ ez_.symm).2 hk.1.1.1.1.1.2)⟩ : _ ∧ some k_ ≠ (v932 : Value).ownBlock))))
           refine hK.out _ _ ⟨bx_ BK898.out 0, bx_ BK898.out 1, bx_ BK898.out 2, bx_ BK898.out 3, bx_ BK898.out 4, bx_ BK917.out 0, bx_ BK917.out 1, bx_ BK917.out 2, bx_ BK917.out 3⟩ (fun hHeld => ?_)
           clear hK K
           refine norm_ (a' := ?_) ?_ ?_
           rotate_left
           ·
            show Act.put _ (some 66) _ = _
            simp only [fr_]
            rfl
           refine one_ (i := 13) (N := some 67) #[t_,t_,t_,t_,t_,t_,t_,t_,t_,t_,t_,t_,t_,t_,f_,f_] rfl rfl (one_of HT_.out (by kernel_rfl)) (by decide) (fun K hK => ?_)
           refine Kd.S_append_rows_step k44 (w0 := w) w.heap.size (by rfl) (.tmp 61) (.tmp 66) 37 44 (.agg #[(.slice none 0 0), (.int .i64 0), (.int .i64 0), (.string ⟨#[]⟩)]) 56 rfl Try.underlying37 info44 rfl (by decide) (by omega) v932 y931 t938 _ _ _ (fun k_ => some k_ ≠ (.slice Ao17 t902.length co17 : Value).ownBlock ∧ some k_ ≠ (u911004 : Value).ownBlock ∧ k_ ≠ gb899 ∧ k_ ≠ gb917 ∧ k_ ≠ gb930) PXP87 rfl rfl ?aR (fun k_ hk_ => ⟨⟨(hPlP87 k_ hk_).1.1.1.2, ⟨(hPlP87 k_ hk_).1.1.2, ⟨(hPlP87 k_ hk_).1.1.1.1.1.1.2, ⟨(hPlP87 k_ hk_).1.1.1.1.1.2, (hPlP87 k_ hk_).1.1.1.1.2⟩⟩⟩⟩, (hPlP87 k_ hk_).1.2⟩) ?aF ?aO ?aB ?aS ?aL ?_
           (case aR => exact hPXP87)
           (case aB => exact (by repeat (first | (with_reducible first | exact HB.out | apply ba_ | apply bn_ | apply bd_ | apply bs_ GE898 | apply bs_ GE899 | apply bs_ GE900 | apply bs_ GE910 | apply bs_ GE917 | apply bs_ GE930) | exact HB.out)))
           (case aF => exact (fun k_ hk => ⟨Kd.fresh' (Kd.R_lt (rp_ HO_911001.out)) k_ hk, Kd.fresh' (Kd.S_lt (sp_ HO_911004.out)) k_ hk, Kd.freshB (g := gb899) (o := .cells #[.slice A1_0 l1_0.length c1_0, .int .i64 a1_1, .int .i64 a1_2, .string a1_3] 44 (0, 0)) (pb_ BK899.out) k_ hk, Kd.freshB (g := gb917) (o := .cells #[.slice Ao23 t911.length co23, .int .i64 t914, .int .i64 t915, .string t916] 44 (0, 0)) (pb_ BK917.out) k_ hk, Kd.freshB (g := gb930) (o := .cells #[.slice Ao23 t911.length co23, .int .i64 t914, .int .i64 t915, .string t916] 44 (0, 0)) (pb_ BK930.out) k_ hk⟩))
           (case aO => exact (by (with_reducible repeat (first | apply Kd.S_alloc | apply Kd.S_drewN | apply Kd.S_drew)); exact Kd.S_mono HO933.out (fun k_ hk => ⟨⟨hk.1.1, ⟨hk.1.2.1, ⟨hk.1.2.2.1, ⟨hk.1.2.2.2.1, hk.1.2.2.2.2⟩⟩⟩⟩, fun e_ => (fun ez_ => Nat.lt_irrefl _ (Nat.lt_of_lt_of_le hk.2 (hPlP87 _ ez_).1.1.1.1.1.1.1.2)) e_⟩)))
           (case aS => exact (below_size (by repeat (first | (with_reducible first | exact HB.out | apply ba_ | apply bn_ | apply bd_ | apply bs_ GE898 | apply bs_ GE899 | apply bs_ GE900 | apply bs_ GE910 | apply bs_ GE917 | apply bs_ GE930) | exact HB.out))))
           (case aL => have := LMc75.out; omega)
           intro v942 w85 ho hb hg hat
           rw [← Ny941.out] at ho
           have n0_ := Aside0.mk (Kd.R_over' (rp_ HO_911001.out) (Kd.S_typed (sp_ HO933.out)) (by decide) hg)
           have n1_ := Aside0.mk (Kd.S_after (ok := (fun k_ => some k_ ≠ (.slice Ao17 t902.length co17 : Value).ownBlock ∧ k_ ≠ gb899 ∧ k_ ≠ gb917 ∧ k_ ≠ gb930 ∧ k_ < gbz928 ∧ k_ < gbz939)) (by (with_reducible repeat (first | apply Kd.S_alloc | apply Kd.S_drewN | apply Kd.S_drew)); exact Kd.S_mono HO_911004.out (fun _ hk => ⟨⟨hk.1.1.1, ⟨hk.1.1.2.2.1, ⟨hk.1.1.2.2.2.1, ⟨hk.1.1.2.2.2.2.1, ⟨hk.1.1.2.2.2.2.2, hk.2⟩⟩⟩⟩⟩, hk.1.2⟩)) hg hat)
           have n2_ := Aside0.mk (blk_grown (g := gb898) (o := .cells #[.int .i64 a0_0, .slice A0_1 l0_1.length c0_1, .int .i64 a0_2, .int .i64 a0_3, .slice (some ad921) l0_4.length c0_4] 75 (0, 0)) (pb_ BK898.out) hg (Kd.S_ne HO933.out BK898.out (by decide)))
           have n3_ := Aside0.mk (blk_grown (g := gb899) (o := .cells #[.slice A1_0 l1_0.length c1_0, .int .i64 a1_1, .int .i64 a1_2, .string a1_3] 44 (0, 0)) (pb_ BK899.out) hg (Kd.S_away HO933.out (fun _ hk => hk.1.2.2.1)))
           have n4_ := Aside0.mk (blk_grown (g := gb900) (o := .cells #[.int .i64 x901000_1, .slice none 0 0, .int .i64 x901002_1, .int .i64 x901003_1, .slice none 0 0] 75 (0, 0)) (pb_ BK900.out) hg (Kd.S_ne HO933.out BK900.out (by decide)))
           have n5_ := Aside0.mk (blk_grown (g := gb910) (o := .cells #[.int .i64 t901, .slice Ao17 t902.length co17, .int .i64 t905, .int .i64 t906, u911004] 75 (0, 0)) (pb_ BK910.out) hg (Kd.S_ne HO933.out BK910.out (by decide)))
           have n6_ := Aside0.mk (blk_grown (g := gb917) (o := .cells #[.slice Ao23 t911.length co23, .int .i64 t914, .int .i64 t915, .string t916] 44 (0, 0)) (pb_ BK917.out) hg (Kd.S_away HO933.out (fun _ hk => hk.1.2.2.2.1)))
           have n7_ := Aside0.mk (blk_grown (g := gb930) (o := .cells #[.slice Ao23 t911.length co23, .int .i64 t914, .int .i64 t915, .string t916] 44 (0, 0)) (pb_ BK930.out) hg (Kd.S_away HO933.out (fun _ hk => hk.1.2.2.2.2)))
           have n8_ := Aside0.mk (hb)
           have n9_ := Aside0.mk (ho)
           clear HO_911001 HO_911004 BK898 BK899 BK900 BK910 BK917 BK930 HB HO933 HO940
           have HO_911001 := n0_
           have HO_911004 := n1_
           have BK898 := n2_
           have BK899 := n3_
           have BK900 := n4_
           have BK910 := n5_
           have BK917 := n6_
           have BK930 := n7_
           have HB := n8_
           have HO943 := n9_
           clear n0_ n1_ n2_ n3_ n4_ n5_ n6_ n7_ n8_ n9_ ho hb hg hat
           obtain ⟨Ao88, co88, eo88⟩ := Kd.S_slice HO943.out
           (first | subst eo88 | (injection eo88 with f1_ f2_ f3_; have f4_ := f1_.symm; have f5_ := f3_.symm; clear f1_ f2_ f3_; subst f4_; subst f5_))
           refine hK.out _ _ ⟨bx_ BK898.out 0, bx_ BK898.out 1, bx_ BK898.out 2, bx_ BK898.out 3, bx_ BK898.out 4, bx_ BK917.out 0, bx_ BK917.out 1, bx_ BK917.out 2, bx_ BK917.out 3⟩ (fun hHeld => ?_)
           clear hK K
           refine norm_ (a' := ?_) ?_ ?_
           rotate_left
           ·
            show Act.put _ (some 67) _ = _
            simp only [fr_]
            rfl
           refine pu_ 14 68 ?_ (b_ 15 1) rfl rfl HT_.out ?_ ?_ ?_ ?_; rotate_left; intro w'; go_simp; with_reducible rfl; rotate_left; simp only [fr_]; rfl
           refine one_ (i := 15) (N := none) #[t_,t_,t_,t_,t_,t_,t_,t_,t_,t_,t_,t_,t_,t_,t_,t_] rfl rfl (one_of HT_.out (by kernel_rfl)) (by decide) (fun K hK => ?_)
           have hs89 : w85.cell? ⟨gb910, 4, none⟩ = some (u911004) := bx_ BK910.out 4
           have hfs89 := blk_frozen BK910.out 4
           have hns89_0 := NB898_910.out
           have hns89_1 := NB899_910.out
           have hns89_2 := NB900_910.out
           have hns89_4 := NB917_910.out
           have hns89_5 := NB930_910.out
           have hms89_0 := NB910_898.out
           have hms89_1 := NB910_899.out
           have hms89_2 := NB910_900.out
           have hms89_4 := NB910_917.out
           have hms89_5 := NB910_930.out
           refine skip_ (w1 := ?_) (by rfl) rfl ?_ ?_
           rotate_left
           ·
            go_simp
            rfl
           refine hK.out _ _ ⟨((cell_far (p := ⟨gb910, _, none⟩) NB898_910.out _).trans (hHeld.1)), ((cell_far (p := ⟨gb910, _, none⟩) NB898_910.out _).trans (hHeld.2.1)), ((cell_far (p := ⟨gb910, _, none⟩) NB898_910.out _).trans (hHeld.2.2.1)), ((cell_far (p := ⟨gb910, _, none⟩) NB898_910.out _).trans (hHeld.2.2.2.1)), ((cell_far (p := ⟨gb910, _, none⟩) NB898_910.out _).trans (hHeld.2.2.2.2.1)), ((cell_far (p := ⟨gb910, _, none⟩) NB917_910.out _).trans (hHeld.2.2.2.2.2.1)), ((cell_far (p := ⟨gb910, _, none⟩) NB917_910.out _).trans (hHeld.2.2.2.2.2.2.1)), ((cell_far (p := ⟨gb910, _, none⟩) NB917_910.out _).trans (hHeld.2.2.2.2.2.2.2.1)), ((cell_far (p := ⟨gb910, _, none⟩) NB917_910.out _).trans (hHeld.2.2.2.2.2.2.2.2))⟩ (fun hHeld => ?_)
           clear hK K
           refine done_ (done_of HT_.out (by kernel_rfl)) ?_
           have hnb90 := NB910_898.out
           have hnc90 := NB898_910.out
           have hnb91 := NB910_899.out
           have hnc91 := NB899_910.out
           have hnb92 := NB910_900.out
           have hnc92 := NB900_910.out
           have hnb93 := NB910_917.out
           have hnc93 := NB917_910.out
           have hnb94 := NB910_930.out
           have hnc94 := NB930_910.out
           obtain ⟨hcz95_0, hcz95_1, hcz95_2, hcz95_3, hcz95_4, hfz95_0, hfz95_1, hfz95_2, hfz95_3, hfz95_4⟩ := bc5_ BK910.out
           have hnb96 := NB900_898.out
           have hnc96 := NB898_900.out
           have hnb97 := NB900_899.out
           have hnc97 := NB899_900.out
           have hnb98 := NB900_917.out
           have hnc98 := NB917_900.out
           have hnb99 := NB900_930.out
           have hnc99 := NB930_900.out
           obtain ⟨hcz100_0, hcz100_1, hcz100_2, hcz100_3, hcz100_4, hfz100_0, hfz100_1, hfz100_2, hfz100_3, hfz100_4⟩ := bc5_ BK900.out
           try go_wp2
           refine bodyPost_ret (results_cell_row rfl _ _ gb900 75 #[.int .i64 t901, .slice Ao17 t902.length co17, .int .i64 t905, .int .i64 t906, .slice Ao88 y941.length co88] (0, 0) _ rfl (by (with_reducible repeat (first | refine kn_ ?_ _ | refine kd_ ?_ | refine ka_ ?_ _)); refine blk_put (cs := #[.int .i64 t901, .slice Ao17 t902.length co17, .int .i64 t905, .int .i64 t906, .slice none 0 0]) ?_ 4 _ rfl; (with_reducible repeat (first | refine kn_ ?_ _ | refine kd_ ?_ | refine ka_ ?_ _)); refine blk_put (cs := #[.int .i64 t901, .slice Ao17 t902.length co17, .int .i64 t905, .int .i64 x901003_1, .slice none 0 0]) ?_ 3 _ rfl; (with_reducible repeat (first | refine kn_ ?_ _ | refine kd_ ?_ | refine ka_ ?_ _)); refine blk_put (cs := #[.int .i64 t901, .slice Ao17 t902.length co17, .int .i64 x901002_1, .int .i64 x901003_1, .slice none 0 0]) ?_ 2 _ rfl; (with_reducible repeat (first | refine kn_ ?_ _ | refine kd_ ?_ | refine ka_ ?_ _)); refine blk_put (cs := #[.int .i64 t901, .slice none 0 0, .int .i64 x901002_1, .int .i64 x901003_1, .slice none 0 0]) ?_ 1 _ rfl; (with_reducible repeat (first | refine kn_ ?_ _ | refine kd_ ?_ | refine ka_ ?_ _)); refine blk_put (cs := #[.int .i64 x901000_1, .slice none 0 0, .int .i64 x901002_1, .int .i64 x901003_1, .slice none 0 0]) ?_ 0 _ rfl; (with_reducible repeat (first | refine kn_ ?_ _ | refine kd_ ?_ | refine ka_ ?_ _)); refine blk_far ?_ NB900_910.out _; (with_reducible repeat (first | refine kn_ ?_ _ | refine kd_ ?_ | refine ka_ ?_ _)); exact BK900.out) Try.underlying75 rfl (by kernel_rfl)) rfl ?_
           exact ⟨_, _, by first | rfl | (simp [errW_none, errW_some] <;> rfl) | (simp [*, errW_none, errW_some] <;> rfl), by (with_reducible repeat (first | apply Kd.R_alloc | apply Kd.R_drewN | apply Kd.R_drew)); exact Kd.R_mono (Kd.R_far (p := ⟨gb900, 4, none⟩) (Kd.R_far (p := ⟨gb900, 3, none⟩) (Kd.R_far (p := ⟨gb900, 2, none⟩) (Kd.R_far (p := ⟨gb900, 1, none⟩) (Kd.R_far (p := ⟨gb900, 0, none⟩) (Kd.R_far (p := ⟨gb910, 4, none⟩) (Kd.R_types (Kd.R_types HO_911001.out BK910.out (by decide)) BK900.out (by decide)) (fun _ hk => hk.1.2) (.slice Ao88 y941.length co88)) (fun _ hk => hk.2) (.int .i64 t901)) (fun _ hk => hk.2) (.slice Ao17 t902.length co17)) (fun _ hk => hk.2) (.int .i64 t905)) (fun _ hk => hk.2) (.int .i64 t906)) (fun _ hk => hk.2) (.slice Ao88 y941.length co88)) (fun _ hk => trivial), by (with_reducible repeat (first | apply Kd.S_alloc | apply Kd.S_drewN | apply Kd.S_drew)); exact Kd.S_mono (Kd.S_far (p := ⟨gb900, 4, none⟩) (Kd.S_far (p := ⟨gb900, 3, none⟩) (Kd.S_far (p := ⟨gb900, 2, none⟩) (Kd.S_far (p := ⟨gb900, 1, none⟩) (Kd.S_far (p := ⟨gb900, 0, none⟩) (Kd.S_far (p := ⟨gb910, 4, none⟩) (Kd.S_types (Kd.S_types HO943.out BK910.out (by decide)) BK900.out (by decide)) (fun _ hk => hk.1.2) (.slice Ao88 y941.length co88)) (fun _ hk => hk.2) (.int .i64 t901)) (fun _ hk => hk.2) (.slice Ao17 t902.length co17)) (fun _ hk => hk.2) (.int .i64 t905)) (fun _ hk => hk.2) (.int .i64 t906)) (fun _ hk => hk.2) (.slice Ao88 y941.length co88)) (fun _ hk => hk.1.1.1), by repeat (first | (with_reducible first | exact HB.out | apply ba_ | apply bn_ | apply bd_ | apply bs_ GE898 | apply bs_ GE899 | apply bs_ GE900 | apply bs_ GE910 | apply bs_ GE917 | apply bs_ GE930) | exact HB.out)⟩
          rw [if_neg c75] at H
          exact absurd H (by simp)
         rw [if_neg c71] at H
         exact absurd H (by simp)
        rw [if_neg c69] at H
        exact absurd H (by simp)
       replace c67 := Bool.eq_false_iff.mpr c67
       subst c67
       rw [if_neg (show ¬ (false = true) by decide)] at H
       have H' := Aside0.mk H
       clear H
       try go_wp2
       replace HO_911001 := Aside0.mk (Kd.R_drew HO_911001.out)
       replace HO_911004 := Aside0.mk (Kd.S_drew HO_911004.out)
       replace HO_918000 := Aside0.mk (Kd.R_drew HO_918000.out)
       replace BK898 := Aside0.mk (blk_drew BK898.out)
       replace BK899 := Aside0.mk (blk_drew BK899.out)
       replace BK900 := Aside0.mk (blk_drew BK900.out)
       replace BK910 := Aside0.mk (blk_drew BK910.out)
       replace BK917 := Aside0.mk (blk_drew BK917.out)
       replace HB := Aside0.mk (bd_ HB.out)
       have p921 : 0 ≤ (x8_2 : Int) := of_decide_eq_true (by with_reducible assumption)
       have q921 : x8_2 < (l0_4.length : Int) := of_decide_eq_true (by with_reducible assumption)
       obtain ⟨ad921, A921_0, c921_0, e921, hx921_0, hx921_1, hx921_2, hx921_3, hl921_0, hi921_0⟩ := at_T44 HR0_4.out x8_2 p921 q921
       have hw921_3 := hx921_3
       have hw921_2 := hx921_2
       have hw921_1 := hx921_1
       have hw921_0 := hx921_0
       cases e921
       replace hx921_0 := cl_ HB.out hx921_0
       replace hx921_1 := cl_ HB.out hx921_1
       replace hx921_2 := cl_ HB.out hx921_2
       replace hx921_3 := cl_ HB.out hx921_3
       have HR921_0 := Aside0.mk hi921_0
       have HC921_0 := Aside0.mk hl921_0
       clear hi921_0 hl921_0
       replace p921 := eq_true p921
       replace q921 := eq_true q921
       refine start_ (n := 17) (S := fun w' => w'.cell? ⟨gb898, 0, none⟩ = some (.int .i64 a0_0) ∧ w'.cell? ⟨gb898, 1, none⟩ = some (.slice A0_1 l0_1.length c0_1) ∧ w'.cell? ⟨gb898, 2, none⟩ = some (.int .i64 a0_2) ∧ w'.cell? ⟨gb898, 3, none⟩ = some (.int .i64 a0_3) ∧ w'.cell? ⟨gb898, 4, none⟩ = some (.slice (some ad921) l0_4.length c0_4) ∧ w'.cell? ⟨gb899, 0, none⟩ = some (.slice A1_0 l1_0.length c1_0) ∧ w'.cell? ⟨gb899, 1, none⟩ = some (.int .i64 a1_1) ∧ w'.cell? ⟨gb899, 2, none⟩ = some (.int .i64 a1_2) ∧ w'.cell? ⟨gb899, 3, none⟩ = some (.string a1_3) ∧ w'.cell? (ad921.add ((x8_2).toNat * 4)) = some (.slice A921_0 ((rd_T44 l0_4 x8_2).f0).length c921_0) ∧ w'.cell? ⟨(ad921.add ((x8_2).toNat * 4)).block, (ad921.add ((x8_2).toNat * 4)).off + 1, none⟩ = some (.int .i64 ((rd_T44 l0_4 x8_2).f1)) ∧ w'.cell? ⟨(ad921.add ((x8_2).toNat * 4)).block, (ad921.add ((x8_2).toNat * 4)).off + 2, none⟩ = some (.int .i64 ((rd_T44 l0_4 x8_2).f2)) ∧ w'.cell? ⟨(ad921.add ((x8_2).toNat * 4)).block, (ad921.add ((x8_2).toNat * 4)).off + 3, none⟩ = some (.string ((rd_T44 l0_4 x8_2).f3))) (ds := []) #[f_,f_,f_,f_,f_,f_,f_,f_,f_,f_,f_,f_,f_,f_,f_,f_,f_] (by kernel_rfl) rfl rfl ⟨bx_ BK898.out 0, bx_ BK898.out 1, bx_ BK898.out 2, bx_ BK898.out 3, bx_ BK898.out 4, bx_ BK899.out 0, bx_ BK899.out 1, bx_ BK899.out 2, bx_ BK899.out 3, ((HB.out.cell (World.block_lt_of_cell? w _ hw921_0)).trans hw921_0), ((HB.out.cell (World.block_lt_of_cell? w _ hw921_1)).trans hw921_1), ((HB.out.cell (World.block_lt_of_cell? w _ hw921_2)).trans hw921_2), ((HB.out.cell (World.block_lt_of_cell? w _ hw921_3)).trans hw921_3)⟩ (fun hHeld => ?_); refine with_tabW spec_JoinIn.tab10 spec_JoinIn.bits10 (fun HT_ HW_ => ?_)
       generalize wr.drew = w101 at HO_911001 HO_911004 HO_918000 BK898 BK899 BK900 BK910 BK917 HB HR921_0 hx921_0 hx921_1 hx921_2 hx921_3 hHeld ⊢
       refine pu_ 0 35 ?_ (b_ 1 16) rfl rfl HT_.out ?_ ?_ ?_ ?_; rotate_left; intro w'; go_simp; with_reducible rfl; rotate_left; simp only [fr_]; rfl
       refine pu_ 1 36 ?_ (b_ 2 15) rfl rfl HT_.out ?_ ?_ ?_ ?_; rotate_left; intro w'; go_simp; with_reducible rfl; rotate_left; simp only [fr_]; rfl
       refine take_ (i := 2) (N := some 37) (v := ?_) (a' := ?_) #[t_,t_,t_,f_,f_,f_,f_,f_,f_,f_,f_,f_,f_,f_,f_,f_,f_] rfl rfl (take_ofW HT_.out HW_.out (by kernel_rfl)) (fun _ _ _ h => h) (Or.inl ⟨by rfl, ?_⟩) hHeld ?_ ?_
       rotate_left
       ·
        rintro w' ⟨s0, s1, s2, s3, s4, s5, s6, s7, s8, s9, s10, s11, s12⟩
        go_simp
        with_reducible rfl
       rotate_left
       ·
        simp only [fr_]
        rfl
       refine pu_ 3 38 ?_ (b_ 4 13) rfl rfl HT_.out ?_ ?_ ?_ ?_; rotate_left; intro w'; go_simp; with_reducible rfl; rotate_left; simp only [fr_]; rfl
       refine pu_ 4 39 ?_ (b_ 5 12) rfl rfl HT_.out ?_ ?_ ?_ ?_; rotate_left; intro w'; go_simp; with_reducible rfl; rotate_left; simp only [fr_]; rfl
       refine pu_ 5 40 ?_ (b_ 6 11) rfl rfl HT_.out ?_ ?_ ?_ ?_; rotate_left; intro w'; go_simp; with_reducible rfl; rotate_left; simp only [fr_]; rfl
       refine pu_ 6 41 ?_ (b_ 7 10) rfl rfl HT_.out ?_ ?_ ?_ ?_; rotate_left; intro w'; go_simp; with_reducible rfl; rotate_left; simp only [fr_]; rfl
       refine pu_ 8 43 ?_ #[t_,t_,t_,t_,t_,t_,t_,f_,t_,f_,f_,f_,f_,f_,f_,f_,f_] rfl rfl HT_.out ?_ ?_ ?_ ?_; rotate_left; intro w'; go_simp; with_reducible rfl; rotate_left; simp only [fr_]; rfl
       refine pu_ 10 45 ?_ #[t_,t_,t_,t_,t_,t_,t_,f_,t_,f_,t_,f_,f_,f_,f_,f_,f_] rfl rfl HT_.out ?_ ?_ ?_ ?_; rotate_left; intro w'; go_simp; with_reducible rfl; rotate_left; simp only [fr_]; rfl
       refine take_ (i := 7) (N := some 42) (v := ?_) (a' := ?_) #[t_,t_,t_,t_,t_,t_,t_,t_,t_,f_,t_,f_,f_,f_,f_,f_,f_] rfl rfl (take_ofW HT_.out HW_.out (by kernel_rfl)) (fun _ _ _ h => h) (Or.inl ⟨by rfl, ?_⟩) hHeld ?_ ?_
       rotate_left
       ·
        rintro w' ⟨s0, s1, s2, s3, s4, s5, s6, s7, s8, s9, s10, s11, s12⟩
        go_simp
        with_reducible rfl
       rotate_left
       ·
        simp only [fr_]
        rfl
       refine take_ (i := 9) (N := some 44) (v := ?_) (a' := ?_) #[t_,t_,t_,t_,t_,t_,t_,t_,t_,t_,t_,f_,f_,f_,f_,f_,f_] rfl rfl (take_ofW HT_.out HW_.out (by kernel_rfl)) (fun _ _ _ h => h) (Or.inl ⟨by rfl, ?_⟩) hHeld ?_ ?_
       rotate_left
       ·
        rintro w' ⟨s0, s1, s2, s3, s4, s5, s6, s7, s8, s9, s10, s11, s12⟩
        go_simp
        with_reducible rfl
       rotate_left
       ·
        simp only [fr_]
        rfl
       refine pu_ 11 46 ?_ (b_ 12 5) rfl rfl HT_.out ?_ ?_ ?_ ?_; rotate_left; intro w'; go_simp; with_reducible rfl; rotate_left; simp only [fr_]; rfl
       refine pu_ 12 47 ?_ (b_ 13 4) rfl rfl HT_.out ?_ ?_ ?_ ?_; rotate_left; intro w'; go_simp; with_reducible rfl; rotate_left; simp only [fr_]; rfl
       refine take_ (i := 13) (N := some 48) (v := ?_) (a' := ?_) #[t_,t_,t_,t_,t_,t_,t_,t_,t_,t_,t_,t_,t_,t_,f_,f_,f_] rfl rfl (take_ofW HT_.out HW_.out (by kernel_rfl)) (fun _ _ _ h => h) (Or.inl ⟨by rfl, ?_⟩) hHeld ?_ ?_
       rotate_left
       ·
        rintro w' ⟨s0, s1, s2, s3, s4, s5, s6, s7, s8, s9, s10, s11, s12⟩
        go_simp
        with_reducible rfl
       rotate_left
       ·
        simp only [fr_]
        rfl
       refine one_ (i := 14) (N := some 49) #[t_,t_,t_,t_,t_,t_,t_,t_,t_,t_,t_,t_,t_,t_,t_,f_,f_] rfl rfl (one_of HT_.out (by kernel_rfl)) (by decide) (fun K hK => ?_)
       refine goes_ Try.func105 (by kernel_rfl) rfl #[.slice A1_0 l1_0.length c1_0, .slice A921_0 ((rd_T44 l0_4 x8_2).f0).length c921_0] (by rfl) rfl rfl (by (try simp only [mp_]); first | done | rfl | (simp only [List.length_drop, List.length_take]; rfl)) ?_
       with_reducible refine (spec_SetLess.calls k2 _ _ l1_0 _ _ ((rd_T44 l0_4 x8_2).f0) false _ ?side1 ?side2 ?side3 ?side4 A66.out).mono ?_
       (case side1 => exact cp_ ((Kd.C_below HR1_0.out HB.out)))
       (case side2 => exact HC1_0.out)
       (case side3 => exact cp_ ((Kd.C_below HR921_0.out HB.out)))
       (case side4 => exact HC921_0.out)
       rintro e w' ⟨rfl, ⟨nd, rfl⟩⟩
       refine ⟨_, rfl, ?_⟩
       refine hK.out _ _ ⟨bx_ BK898.out 0, bx_ BK898.out 1, bx_ BK898.out 2, bx_ BK898.out 3, bx_ BK898.out 4, bx_ BK899.out 0, bx_ BK899.out 1, bx_ BK899.out 2, bx_ BK899.out 3, ((HB.out.cell (World.block_lt_of_cell? w _ hw921_0)).trans hw921_0), ((HB.out.cell (World.block_lt_of_cell? w _ hw921_1)).trans hw921_1), ((HB.out.cell (World.block_lt_of_cell? w _ hw921_2)).trans hw921_2), ((HB.out.cell (World.block_lt_of_cell? w _ hw921_3)).trans hw921_3)⟩ (fun hHeld => ?_)
       clear hK K
       refine norm_ (a' := ?_) ?_ ?_
       rotate_left
       ·
        show Act.put _ (some 49) _ = _
        simp only [fr_]
        rfl
       refine pu_ 15 50 ?_ (b_ 16 1) rfl rfl HT_.out ?_ ?_ ?_ ?_; rotate_left; intro w'; go_simp; with_reducible rfl; rotate_left; simp only [fr_]; rfl
       refine pu_ 16 51 ?_ (b_ 17 0) rfl rfl HT_.out ?_ ?_ ?_ ?_; rotate_left; intro w'; go_simp; with_reducible rfl; rotate_left; simp only [fr_]; rfl
       refine done_ (done_of HT_.out (by kernel_rfl)) ?_
       try go_wp2
       go_roundg k2
       case measure => have := HK1.out; have := HK2.out; omega
       case rel => exact ⟨(wrap64 (x8_2 + 1)), (by first | rfl | (simp; done) | (simp [*]; done)), H', ⟨by have := HK1.out; have := HK2.out; omega⟩, ⟨by (with_reducible repeat (first | apply Kd.R_alloc | apply Kd.R_drewN | apply Kd.R_drew)); exact HO_911001.out⟩, ⟨by (with_reducible repeat (first | apply Kd.S_alloc | apply Kd.S_drewN | apply Kd.S_drew)); exact HO_911004.out⟩, ⟨by (with_reducible repeat (first | apply Kd.R_alloc | apply Kd.R_drewN | apply Kd.R_drew)); exact HO_918000.out⟩, ⟨by (with_reducible repeat (first | refine kn_ ?_ _ | refine kd_ ?_ | refine ka_ ?_ _)); exact BK898.out⟩, ⟨by (with_reducible repeat (first | refine kn_ ?_ _ | refine kd_ ?_ | refine ka_ ?_ _)); exact BK899.out⟩, ⟨by (with_reducible repeat (first | refine kn_ ?_ _ | refine kd_ ?_ | refine ka_ ?_ _)); exact BK900.out⟩, ⟨by (with_reducible repeat (first | refine kn_ ?_ _ | refine kd_ ?_ | refine ka_ ?_ _)); exact BK910.out⟩, ⟨by (with_reducible repeat (first | refine kn_ ?_ _ | refine kd_ ?_ | refine ka_ ?_ _)); exact BK917.out⟩, ⟨by repeat (first | (with_reducible first | exact HB.out | apply ba_ | apply bn_ | apply bd_ | apply bs_ GE898 | apply bs_ GE899 | apply bs_ GE900 | apply bs_ GE910 | apply bs_ GE917) | exact HB.out)⟩⟩
      rw [if_neg c65] at H
      exact absurd H (by simp)
     rw [if_neg c64] at H
     have c64b0 : decide (x8_2 < (l0_4.length : Int)) = false := decide_eq_false c64
     clear c64
     by_cases c102 : 0 ≤ x8_2
     ·
      rw [if_pos c102] at H
      have c102b0 := eq_true c102
      have c102b1 := decide_eq_true c102
      clear c102
      by_cases c103 : x8_2 ≤ (l0_4.length : Int)
      ·
       rw [if_pos c103] at H
       have c103b0 := eq_true c103
       have c103b1 := decide_eq_true c103
       clear c103
       obtain ⟨y944, hy944⟩ : ∃ y_ : List (S44), y_ = (l0_4.take (x8_2 : Int).toNat) := ⟨_, rfl⟩
       replace H : ((spec_l4All.f k2 y944).bind fun t948 => (if t948.length < 2513169434916 then ((some (t948 ++ [(⟨t911, t914, t915, t916⟩ : S44)] : List (S44))).bind fun y952 => ((spec_l4All.f k2 (l0_4.drop (x8_2 : Int).toNat)).bind fun t959 => (if y952.length + t959.length < 2513169434916 then (some (t901, t902, t905, t906, (y952 ++ t959))) else (none)))) else (none))) = some (r1, r2, r3, r4, r5) := by first | (rw [hy944]; with_reducible exact H) | (have H2_ := (Option.bind_some _ _).symm.trans H; rw [hy944]; with_reducible exact H2_) | (have H2_ := (Option.bind_some _ _).symm.trans H; with_reducible exact H2_) | with_reducible exact H | (rw [hy944]; exact H) | exact H
       have Ny944 := Aside0.mk hy944
       clear hy944
       replace H := Option.bind_eq_some_iff.mp H
       obtain ⟨t948, A1040, H⟩ := H
       have A104 := Aside0.mk A1040
       clear A1040
       by_cases c105 : t948.length < 2513169434916
       ·
        rw [if_pos c105] at H
        have LMc105 := Aside0.mk c105
        clear c105
        obtain ⟨y952, hy952⟩ : ∃ y_ : List (S44), y_ = (t948 ++ [(⟨t911, t914, t915, t916⟩ : S44)]) := ⟨_, rfl⟩
        replace H : ((spec_l4All.f k2 (l0_4.drop (x8_2 : Int).toNat)).bind fun t959 => (if y952.length + t959.length < 2513169434916 then (some (t901, t902, t905, t906, (y952 ++ t959))) else (none))) = some (r1, r2, r3, r4, r5) := by first | (rw [hy952]; with_reducible exact H) | (have H2_ := (Option.bind_some _ _).symm.trans H; rw [hy952]; with_reducible exact H2_) | (have H2_ := (Option.bind_some _ _).symm.trans H; with_reducible exact H2_) | with_reducible exact H | (rw [hy952]; exact H) | exact H
        have Ny952 := Aside0.mk hy952
        clear hy952
        have c106b0 := eq_true (of_decide_eq_true (by with_reducible assumption) : 0 ≤ x8_2)
        have c107b0 := eq_true (of_decide_eq_true (by with_reducible assumption) : x8_2 ≤ (l0_4.length : Int))
        obtain ⟨y955, hy955⟩ : ∃ y_ : List (S44), y_ = (l0_4.drop (x8_2 : Int).toNat) := ⟨_, rfl⟩
        replace H : ((spec_l4All.f k2 y955).bind fun t959 => (if y952.length + t959.length < 2513169434916 then (some (t901, t902, t905, t906, (y952 ++ t959))) else (none))) = some (r1, r2, r3, r4, r5) := by first | (rw [hy955]; with_reducible exact H) | (have H2_ := (Option.bind_some _ _).symm.trans H; rw [hy955]; with_reducible exact H2_) | (have H2_ := (Option.bind_some _ _).symm.trans H; with_reducible exact H2_) | with_reducible exact H | (rw [hy955]; exact H) | exact H
        have Ny955 := Aside0.mk hy955
        clear hy955
        replace H := Option.bind_eq_some_iff.mp H
        obtain ⟨t959, A1080, H⟩ := H
        have A108 := Aside0.mk A1080
        clear A1080
        by_cases c109 : y952.length + t959.length < 2513169434916
        ·
         rw [if_pos c109] at H
         have LMc109 := Aside0.mk c109
         clear c109
         obtain ⟨y962, hy962⟩ : ∃ y_ : List (S44), y_ = (y952 ++ t959) := ⟨_, rfl⟩
         replace H : (some (t901, t902, t905, t906, y962)) = some (r1, r2, r3, r4, r5) := by first | (rw [hy962]; with_reducible exact H) | (have H2_ := (Option.bind_some _ _).symm.trans H; rw [hy962]; with_reducible exact H2_) | (have H2_ := (Option.bind_some _ _).symm.trans H; with_reducible exact H2_) | with_reducible exact H | (rw [hy962]; exact H) | exact H
         have Ny962 := Aside0.mk hy962
         clear hy962
         simp only [Option.some.injEq, Prod.mk.injEq] at H
         obtain ⟨rfl, rfl, rfl, rfl, rfl⟩ := H
         try go_wp2
         replace HO_911001 := Aside0.mk (Kd.R_drew HO_911001.out)
         replace HO_911004 := Aside0.mk (Kd.S_drew HO_911004.out)
         replace HO_918000 := Aside0.mk (Kd.R_drew HO_918000.out)
         replace BK898 := Aside0.mk (blk_drew BK898.out)
         replace BK899 := Aside0.mk (blk_drew BK899.out)
         replace BK900 := Aside0.mk (blk_drew BK900.out)
         replace BK910 := Aside0.mk (blk_drew BK910.out)
         replace BK917 := Aside0.mk (blk_drew BK917.out)
         replace HB := Aside0.mk (bd_ HB.out)
         refine start_ (n := 17) (S := fun w' => w'.cell? ⟨gb898, 0, none⟩ = some (.int .i64 a0_0) ∧ w'.cell? ⟨gb898, 1, none⟩ = some (.slice A0_1 l0_1.length c0_1) ∧ w'.cell? ⟨gb898, 2, none⟩ = some (.int .i64 a0_2) ∧ w'.cell? ⟨gb898, 3, none⟩ = some (.int .i64 a0_3) ∧ w'.cell? ⟨gb898, 4, none⟩ = some (.slice A0_4 l0_4.length c0_4)) (ds := []) #[f_,f_,f_,f_,f_,f_,f_,f_,f_,f_,f_,f_,f_,f_,f_,f_,f_] (by kernel_rfl) rfl rfl ⟨bx_ BK898.out 0, bx_ BK898.out 1, bx_ BK898.out 2, bx_ BK898.out 3, bx_ BK898.out 4⟩ (fun hHeld => ?_); refine with_tabW spec_JoinIn.tab10 spec_JoinIn.bits10 (fun HT_ HW_ => ?_)
         generalize wr.drew = w110 at HO_911001 HO_911004 HO_918000 BK898 BK899 BK900 BK910 BK917 HB hHeld ⊢
         refine pu_ 0 35 ?_ (b_ 1 16) rfl rfl HT_.out ?_ ?_ ?_ ?_; rotate_left; intro w'; go_simp; with_reducible rfl; rotate_left; simp only [fr_]; rfl
         refine pu_ 1 36 ?_ (b_ 2 15) rfl rfl HT_.out ?_ ?_ ?_ ?_; rotate_left; intro w'; go_simp; with_reducible rfl; rotate_left; simp only [fr_]; rfl
         refine take_ (i := 2) (N := some 37) (v := ?_) (a' := ?_) #[t_,t_,t_,f_,f_,f_,f_,f_,f_,f_,f_,f_,f_,f_,f_,f_,f_] rfl rfl (take_ofW HT_.out HW_.out (by kernel_rfl)) (fun _ _ _ h => h) (Or.inl ⟨by rfl, ?_⟩) hHeld ?_ ?_
         rotate_left
         ·
          rintro w' ⟨s0, s1, s2, s3, s4⟩
          go_simp
          with_reducible rfl
         rotate_left
         ·
          simp only [fr_]
          rfl
         refine pu_ 3 38 ?_ (b_ 4 13) rfl rfl HT_.out ?_ ?_ ?_ ?_; rotate_left; intro w'; go_simp; with_reducible rfl; rotate_left; simp only [fr_]; rfl
         refine pu_ 4 39 ?_ (b_ 5 12) rfl rfl HT_.out ?_ ?_ ?_ ?_; rotate_left; intro w'; go_simp; with_reducible rfl; rotate_left; simp only [fr_]; rfl
         refine pu_ 5 40 ?_ (b_ 6 11) rfl rfl HT_.out ?_ ?_ ?_ ?_; rotate_left; intro w'; go_simp; with_reducible rfl; rotate_left; simp only [fr_]; rfl
         refine pv_ 6 41 ?_ (b_ 7 10) rfl rfl HT_.out ?_ ?_; rotate_left; simp only [fr_]; rfl
         refine pv_ 7 42 ?_ (b_ 8 9) rfl rfl HT_.out ?_ ?_; rotate_left; simp only [fr_]; rfl
         refine pv_ 8 43 ?_ (b_ 9 8) rfl rfl HT_.out ?_ ?_; rotate_left; simp only [fr_]; rfl
         refine pv_ 9 44 ?_ (b_ 10 7) rfl rfl HT_.out ?_ ?_; rotate_left; simp only [fr_]; rfl
         refine pv_ 10 45 ?_ (b_ 11 6) rfl rfl HT_.out ?_ ?_; rotate_left; simp only [fr_]; rfl
         refine pv_ 11 46 ?_ (b_ 12 5) rfl rfl HT_.out ?_ ?_; rotate_left; simp only [fr_]; rfl
         refine pv_ 12 47 ?_ (b_ 13 4) rfl rfl HT_.out ?_ ?_; rotate_left; simp only [fr_]; rfl
         refine pv_ 13 48 ?_ (b_ 14 3) rfl rfl HT_.out ?_ ?_; rotate_left; simp only [fr_]; rfl
         refine pv_ 14 49 ?_ (b_ 15 2) rfl rfl HT_.out ?_ ?_; rotate_left; simp only [fr_]; rfl
         refine pv_ 15 50 ?_ (b_ 16 1) rfl rfl HT_.out ?_ ?_; rotate_left; simp only [fr_]; rfl
         refine pu_ 16 51 ?_ (b_ 17 0) rfl rfl HT_.out ?_ ?_ ?_ ?_; rotate_left; intro w'; go_simp; with_reducible rfl; rotate_left; simp only [fr_]; rfl
         refine done_ (done_of HT_.out (by kernel_rfl)) ?_
         try go_wp2
         replace HO_911001 := Aside0.mk (Kd.R_drew HO_911001.out)
         replace HO_911004 := Aside0.mk (Kd.S_drew HO_911004.out)
         replace HO_918000 := Aside0.mk (Kd.R_drew HO_918000.out)
         replace BK898 := Aside0.mk (blk_drew BK898.out)
         replace BK899 := Aside0.mk (blk_drew BK899.out)
         replace BK900 := Aside0.mk (blk_drew BK900.out)
         replace BK910 := Aside0.mk (blk_drew BK910.out)
         replace BK917 := Aside0.mk (blk_drew BK917.out)
         replace HB := Aside0.mk (bd_ HB.out)
         have q112 : (x8_2 : Int) ≤ ((l0_4.length : Int) : Int) := of_decide_eq_true (by with_reducible assumption)
         obtain ⟨i0112, hi0112, _, hsz112, _⟩ := info_parts info44
         have hroom112 : l0_4.length ≤ c0_4 := HC0_4.out
         have hC112 : Kd.C k44 _ A0_4 l0_4.length l0_4 := HR0_4.out
         have hcut112 := cut_to (P := Try.prog) 37 44 .i64 Try.underlying37 hi0112 A0_4 l0_4.length c0_4 x8_2 (of_decide_eq_true (by with_reducible assumption)) q112 hroom112
         have hr112 := Kd.C_take (m := (x8_2 : Int).toNat) hC112 (by omega)
         have hy112 : y944.length = (x8_2 : Int).toNat := (by rw [Ny944.out, List.length_take]; omega)
         rw [← Ny944.out] at hr112
         rw [← hy112] at hcut112
         have HR947 := Aside0.mk hr112
         have HC947 := Aside0.mk (show y944.length ≤ c0_4 from by omega)
         clear hr112 hC112 hroom112 hi0112 hsz112
         have KY112 := Aside0.mk hy112
         clear hy112
         replace q112 := eq_true q112
         have q113 : (x8_2 : Int) ≤ ((l0_4.length : Int) : Int) := of_decide_eq_true (by with_reducible assumption)
         obtain ⟨i0113, hi0113, _, hsz113, _⟩ := info_parts info44
         have hroom113 : l0_4.length ≤ c0_4 := HC0_4.out
         have hC113 : Kd.C k44 _ A0_4 l0_4.length l0_4 := HR0_4.out
         have q0113 : (0 : Int) ≤ (x8_2 : Int) := of_decide_eq_true (by with_reducible assumption)
         have hcut113 := cut_from (P := Try.prog) 37 44 .i64 Try.underlying37 hi0113 4 hsz113 A0_4 l0_4.length c0_4 x8_2 q0113 q113
         have hr113 := Kd.C_drop (m := (x8_2 : Int).toNat) (c := c0_4) hC113 (by omega) hroom113
         obtain ⟨A113, hA113⟩ : ∃ A1, A1 = (if c0_4 = (x8_2 : Int).toNat then A0_4 else (A0_4 : Option Addr).map (·.add ((x8_2 : Int).toNat * 4))) := ⟨_, rfl⟩
         obtain ⟨c113, hc113⟩ : ∃ c1, c1 = c0_4 - (x8_2 : Int).toNat := ⟨_, rfl⟩
         have hy113 : y955.length = l0_4.length - (x8_2 : Int).toNat := (by rw [Ny955.out, List.length_drop] <;> omega)
         rw [show (l0_4).drop (x8_2 : Int).toNat = y955 from Ny955.out.symm] at hr113
         replace hr113 : Kd.C k44 _ A113 y955.length y955 := (by rw [hA113]; exact hr113)
         rw [← hy113, ← hA113, ← hc113] at hcut113
         have HR958 := Aside0.mk hr113
         have HC958 := Aside0.mk (show y955.length ≤ c113 from by rw [hy113, hc113]; exact Nat.sub_le_sub_right hroom113 _)
         clear hr113 hC113 hroom113 hi0113 hsz113 hc113
         have KY113 := Aside0.mk hy113
         have KA113 := Aside0.mk hA113
         clear hy113 hA113
         replace q113 := eq_true q113
         refine start_ (n := 16) (S := fun w' => w'.cell? ⟨gb898, 0, none⟩ = some (.int .i64 a0_0) ∧ w'.cell? ⟨gb898, 1, none⟩ = some (.slice A0_1 l0_1.length c0_1) ∧ w'.cell? ⟨gb898, 2, none⟩ = some (.int .i64 a0_2) ∧ w'.cell? ⟨gb898, 3, none⟩ = some (.int .i64 a0_3) ∧ w'.cell? ⟨gb898, 4, none⟩ = some (.slice A0_4 l0_4.length c0_4) ∧ w'.cell? ⟨gb917, 0, none⟩ = some (.slice Ao23 t911.length co23) ∧ w'.cell? ⟨gb917, 1, none⟩ = some (.int .i64 t914) ∧ w'.cell? ⟨gb917, 2, none⟩ = some (.int .i64 t915) ∧ w'.cell? ⟨gb917, 3, none⟩ = some (.string t916)) (ds := []) #[f_,f_,f_,f_,f_,f_,f_,f_,f_,f_,f_,f_,f_,f_,f_,f_] (by kernel_rfl) rfl rfl ⟨bx_ BK898.out 0, bx_ BK898.out 1, bx_ BK898.out 2, bx_ BK898.out 3, bx_ BK898.out 4, bx_ BK917.out 0, bx_ BK917.out 1, bx_ BK917.out 2, bx_ BK917.out 3⟩ (fun hHeld => ?_); refine with_tabW spec_JoinIn.tab12 spec_JoinIn.bits12 (fun HT_ HW_ => ?_)
         generalize w110.drew = w111 at HO_911001 HO_911004 HO_918000 BK898 BK899 BK900 BK910 BK917 HB HR947 HR958 hHeld ⊢
         refine pu_ 0 54 ?_ (b_ 1 15) rfl rfl HT_.out ?_ ?_ ?_ ?_; rotate_left; intro w'; go_simp; with_reducible rfl; rotate_left; simp only [fr_]; rfl
         refine pu_ 2 56 ?_ #[t_,f_,t_,f_,f_,f_,f_,f_,f_,f_,f_,f_,f_,f_,f_,f_] rfl rfl HT_.out ?_ ?_ ?_ ?_; rotate_left; intro w'; go_simp; with_reducible rfl; rotate_left; simp only [fr_]; rfl
         refine pu_ 8 62 ?_ #[t_,f_,t_,f_,f_,f_,f_,f_,t_,f_,f_,f_,f_,f_,f_,f_] rfl rfl HT_.out ?_ ?_ ?_ ?_; rotate_left; intro w'; go_simp; with_reducible rfl; rotate_left; simp only [fr_]; rfl
         refine pu_ 10 64 ?_ #[t_,f_,t_,f_,f_,f_,f_,f_,t_,f_,t_,f_,f_,f_,f_,f_] rfl rfl HT_.out ?_ ?_ ?_ ?_; rotate_left; intro w'; go_simp; with_reducible rfl; rotate_left; simp only [fr_]; rfl
         refine take_ (i := 1) (N := some 55) (v := ?_) (a' := ?_) #[t_,t_,t_,f_,f_,f_,f_,f_,t_,f_,t_,f_,f_,f_,f_,f_] rfl rfl (take_ofW HT_.out HW_.out (by kernel_rfl)) (fun _ _ _ h => h) (Or.inl ⟨by rfl, ?_⟩) hHeld ?_ ?_
         rotate_left
         ·
          rintro w' ⟨s0, s1, s2, s3, s4, s5, s6, s7, s8⟩
          go_simp
          with_reducible rfl
         rotate_left
         ·
          simp only [fr_]
          rfl
         refine pu_ 3 57 ?_ #[t_,t_,t_,t_,f_,f_,f_,f_,t_,f_,t_,f_,f_,f_,f_,f_] rfl rfl HT_.out ?_ ?_ ?_ ?_; rotate_left; intro w'; go_simp; with_reducible rfl; rotate_left; simp only [fr_]; rfl
         refine take_ (i := 5) (N := some 59) (v := ?_) (a' := ?_) #[t_,t_,t_,t_,f_,t_,f_,f_,t_,f_,t_,f_,f_,f_,f_,f_] rfl rfl (take_ofW HT_.out HW_.out (by kernel_rfl)) (fun _ _ _ h => h) (Or.inl ⟨by rfl, ?_⟩) hHeld ?_ ?_
         rotate_left
         ·
          rintro w' ⟨s0, s1, s2, s3, s4, s5, s6, s7, s8⟩
          go_simp
          with_reducible rfl
         rotate_left
         ·
          simp only [fr_]
          rfl
         refine take_ (i := 9) (N := some 63) (v := ?_) (a' := ?_) #[t_,t_,t_,t_,f_,t_,f_,f_,t_,t_,t_,f_,f_,f_,f_,f_] rfl rfl (take_ofW HT_.out HW_.out (by kernel_rfl)) (fun _ _ _ h => h) (Or.inl ⟨by rfl, ?_⟩) hHeld ?_ ?_
         rotate_left
         ·
          rintro w' ⟨s0, s1, s2, s3, s4, s5, s6, s7, s8⟩
          go_simp
          with_reducible rfl
         rotate_left
         ·
          simp only [fr_]
          rfl
         refine pu_ 11 65 ?_ #[t_,t_,t_,t_,f_,t_,f_,f_,t_,t_,t_,t_,f_,f_,f_,f_] rfl rfl HT_.out ?_ ?_ ?_ ?_; rotate_left; intro w'; go_simp; with_reducible rfl; rotate_left; simp only [fr_]; rfl
         refine join_ (σ := Value × Nat × Nat) 5 #[t_,t_,t_,t_,t_,t_,t_,f_,t_,t_,t_,t_,f_,f_,f_,f_] (fun s_ => [(58, s_.1), (60, .slice (some ⟨s_.2.2, 0, none⟩) 1 1)]) (fun s_ w' => (w'.cell? ⟨gb898, 0, none⟩ = some (.int .i64 a0_0) ∧ w'.cell? ⟨gb898, 1, none⟩ = some (.slice A0_1 l0_1.length c0_1) ∧ w'.cell? ⟨gb898, 2, none⟩ = some (.int .i64 a0_2) ∧ w'.cell? ⟨gb898, 3, none⟩ = some (.int .i64 a0_3) ∧ w'.cell? ⟨gb898, 4, none⟩ = some (.slice A0_4 l0_4.length c0_4) ∧ w'.cell? ⟨gb917, 0, none⟩ = some (.slice Ao23 t911.length co23) ∧ w'.cell? ⟨gb917, 1, none⟩ = some (.int .i64 t914) ∧ w'.cell? ⟨gb917, 2, none⟩ = some (.int .i64 t915) ∧ w'.cell? ⟨gb917, 3, none⟩ = some (.string t916)) ∧ (Kd.S k44 44 w' w.heap.size (fun k_ => k_ ≠ gb899 ∧ k_ ≠ gb917 ∧ k_ ≠ s_.2.2 ∧ s_.2.1 ≤ k_) s_.1 t948) ∧ (Kd.R k164 164 w' w.heap.size (fun k_ => some k_ ≠ (.slice Ao23 t911.length co23 : Value).ownBlock ∧ k_ < s_.2.1) (.slice Ao17 t902.length co17) t902) ∧ (Kd.S k44 44 w' w.heap.size (fun k_ => some k_ ≠ (.slice Ao17 t902.length co17 : Value).ownBlock ∧ some k_ ≠ (.slice Ao23 t911.length co23 : Value).ownBlock ∧ k_ ≠ gb899 ∧ k_ ≠ gb917 ∧ k_ ≠ s_.2.2 ∧ k_ < s_.2.1) u911004 x911004_1) ∧ (Kd.R k164 164 w' w.heap.size (fun k_ => some k_ ≠ (.slice Ao17 t902.length co17 : Value).ownBlock ∧ k_ < s_.2.1) (.slice Ao23 t911.length co23) t911) ∧ (w'.heap[gb898]? = some (.cells #[.int .i64 a0_0, .slice A0_1 l0_1.length c0_1, .int .i64 a0_2, .int .i64 a0_3, .slice A0_4 l0_4.length c0_4] 75 (0, 0))) ∧ (w'.heap[gb899]? = some (.cells #[.slice A1_0 l1_0.length c1_0, .int .i64 a1_1, .int .i64 a1_2, .string a1_3] 44 (0, 0))) ∧ (w'.heap[gb900]? = some (.cells #[.int .i64 x901000_1, .slice none 0 0, .int .i64 x901002_1, .int .i64 x901003_1, .slice none 0 0] 75 (0, 0))) ∧ (w'.heap[gb910]? = some (.cells #[.int .i64 t901, .slice Ao17 t902.length co17, .int .i64 t905, .int .i64 t906, u911004] 75 (0, 0))) ∧ (w'.heap[gb917]? = some (.cells #[.slice Ao23 t911.length co23, .int .i64 t914, .int .i64 t915, .string t916] 44 (0, 0))) ∧ (w'.heap[s_.2.2]? = some (.cells #[.slice Ao23 t911.length co23, .int .i64 t914, .int .i64 t915, .string t916] 44 (0, 0))) ∧ (w.heap.size ≤ s_.2.2) ∧ (w.heap.size ≤ s_.2.2) ∧ (gb898 ≠ s_.2.2) ∧ (s_.2.2 ≠ gb898) ∧ (gb899 ≠ s_.2.2) ∧ (s_.2.2 ≠ gb899) ∧ (gb900 ≠ s_.2.2) ∧ (s_.2.2 ≠ gb900) ∧ (gb910 ≠ s_.2.2) ∧ (s_.2.2 ≠ gb910) ∧ (gb917 ≠ s_.2.2) ∧ (s_.2.2 ≠ gb917) ∧ (Below w.heap.size w w')) ?_ ?_
         rotate_left
         ·
          intro hCont
          refine two_ (i := 4) (j := 6) (Ni := some 58) (Nj := some 60) #[t_,t_,t_,t_,t_,t_,f_,f_,t_,t_,t_,t_,f_,f_,f_,f_] #[t_,t_,t_,t_,f_,t_,t_,f_,t_,t_,t_,t_,f_,f_,f_,f_] rfl rfl rfl rfl (two_of HT_.out (by kernel_rfl)) (by decide) (by decide) (fun K hK => ?_) (fun K hK => ?_)
          ·
           skip
           refine goes_ Try.func100 (by kernel_rfl) rfl #[.slice A0_4 y944.length c0_4] (by rfl) rfl rfl (by (try simp only [mp_]); first | done | rfl | (simp only [List.length_drop, List.length_take]; rfl)) ?_
           with_reducible refine (spec_l4All.calls k2 _ _ y944 t948 _ ?side1 ?side2 A104.out).mono ?_
           (case side1 => exact cp_ ((Kd.C_below HR947.out HB.out)))
           (case side2 => exact HC947.out)
           rintro e w114 ⟨v949, rfl, ho0, hb⟩
           refine ⟨_, rfl, ?_⟩
           obtain ⟨gbz949, hz949⟩ := Kd.S_name ho0
           replace HO_911001 := Aside0.mk (Kd.R_below (Kd.R_ltz hz949 (rp_ HO_911001.out)) hb)
           replace HO_911004 := Aside0.mk (Kd.S_below (Kd.S_ltz hz949 (sp_ HO_911004.out)) hb)
           replace HO_918000 := Aside0.mk (Kd.R_below (Kd.R_ltz hz949 (rp_ HO_918000.out)) hb)
           have HO950 := Aside0.mk (Kd.S_lower (Kd.S_newB (Kd.S_newB (Kd.S_gez hz949 ho0) (g := gb899) (o := .cells #[.slice A1_0 l1_0.length c1_0, .int .i64 a1_1, .int .i64 a1_2, .string a1_3] 44 (0, 0)) (pb_ BK899.out)) (g := gb917) (o := .cells #[.slice Ao23 t911.length co23, .int .i64 t914, .int .i64 t915, .string t916] 44 (0, 0)) (pb_ BK917.out)) (below_size (by repeat (first | (with_reducible first | exact HB.out | apply ba_ | apply bn_ | apply bd_ | apply bs_ GE898 | apply bs_ GE899 | apply bs_ GE900 | apply bs_ GE910 | apply bs_ GE917) | exact HB.out))))
           replace BK898 := Aside0.mk (bb_ BK898.out hb)
           replace BK899 := Aside0.mk (bb_ BK899.out hb)
           replace BK900 := Aside0.mk (bb_ BK900.out hb)
           replace BK910 := Aside0.mk (bb_ BK910.out hb)
           replace BK917 := Aside0.mk (bb_ BK917.out hb)
           replace HB := Aside0.mk (below_step (by repeat (first | (with_reducible first | exact HB.out | apply ba_ | apply bn_ | apply bd_ | apply bs_ GE898 | apply bs_ GE899 | apply bs_ GE900 | apply bs_ GE910 | apply bs_ GE917) | exact HB.out)) hb)
           (try clear hb)
           (try clear hb2)
           (try clear hk)
           (try clear hi)
           (try clear ho0)
           refine hK.out _ _ ⟨bx_ BK898.out 0, bx_ BK898.out 1, bx_ BK898.out 2, bx_ BK898.out 3, bx_ BK898.out 4, bx_ BK917.out 0, bx_ BK917.out 1, bx_ BK917.out 2, bx_ BK917.out 3⟩ (fun hHeld => ?_)
           clear hK K
           refine norm_ (a' := ?_) ?_ ?_
           rotate_left
           ·
            show Act.put _ (some 58) _ = _
            simp only [fr_]
            rfl
           refine one_ (i := 6) (N := some 60) #[t_,t_,t_,t_,t_,t_,t_,f_,t_,t_,t_,t_,f_,f_,f_,f_] rfl rfl (one_of HT_.out (by kernel_rfl)) (by decide) (fun K hK => ?_)
           refine box_stepL ?hg (N := 60) ?hd (cs := #[.slice Ao23 t911.length co23, .int .i64 t914, .int .i64 t915, .string t916]) (t := 44) ?hr ?_; (case hd => rfl); (case hg => rfl); (case hr => first | (go_simp; done) | (go_simp; rfl))
           intro gb951 hg w115 hbox hb
           have n0_ := Aside0.mk (Kd.R_below (rp_ HO_911001.out) hb)
           have n1_ := Aside0.mk (Kd.S_below (Kd.S_elderB (sp_ HO_911004.out) gb951 (Nat.le_of_eq hg.symm)) hb)
           have n2_ := Aside0.mk (Kd.R_below (rp_ HO_918000.out) hb)
           have n3_ := Aside0.mk (Kd.S_below (Kd.S_elderB (sp_ HO950.out) gb951 (Nat.le_of_eq hg.symm)) hb)
           have n4_ := Aside0.mk (bb_ BK898.out hb)
           have n5_ := Aside0.mk (bb_ BK899.out hb)
           have n6_ := Aside0.mk (bb_ BK900.out hb)
           have n7_ := Aside0.mk (bb_ BK910.out hb)
           have n8_ := Aside0.mk (bb_ BK917.out hb)
           have n9_ := Aside0.mk (below_step (by repeat (first | (with_reducible first | exact HB.out | apply ba_ | apply bn_ | apply bd_ | apply bs_ GE898 | apply bs_ GE899 | apply bs_ GE900 | apply bs_ GE910 | apply bs_ GE917) | exact HB.out)) hb)
           have n10_ := Aside0.mk (hbox)
           have n11_ := Aside0.mk ((by rw [hg]; exact (below_size (by repeat (first | (with_reducible first | exact HB.out | apply ba_ | apply bn_ | apply bd_ | apply bs_ GE898 | apply bs_ GE899 | apply bs_ GE900 | apply bs_ GE910 | apply bs_ GE917) | exact HB.out))) : w.heap.size ≤ gb951))
           have n12_ := Aside0.mk ((by rw [hg]; exact (below_size (by repeat (first | (with_reducible first | exact HB.out | apply ba_ | apply bn_ | apply bd_ | apply bs_ GE898 | apply bs_ GE899 | apply bs_ GE900 | apply bs_ GE910 | apply bs_ GE917) | exact HB.out))) : w.heap.size ≤ gb951))
           have n13_ := Aside0.mk (nl_ BK898.out hg)
           have n14_ := Aside0.mk (ng_ BK898.out hg)
           have n15_ := Aside0.mk (nl_ BK899.out hg)
           have n16_ := Aside0.mk (ng_ BK899.out hg)
           have n17_ := Aside0.mk (nl_ BK900.out hg)
           have n18_ := Aside0.mk (ng_ BK900.out hg)
           have n19_ := Aside0.mk (nl_ BK910.out hg)
           have n20_ := Aside0.mk (ng_ BK910.out hg)
           have n21_ := Aside0.mk (nl_ BK917.out hg)
           have n22_ := Aside0.mk (ng_ BK917.out hg)
           clear HO_911001 HO_911004 HO_918000 HO950 BK898 BK899 BK900 BK910 BK917 HB
           have HO_911001 := n0_
           have HO_911004 := n1_
           have HO_918000 := n2_
           have HO950 := n3_
           have BK898 := n4_
           have BK899 := n5_
           have BK900 := n6_
           have BK910 := n7_
           have BK917 := n8_
           have HB := n9_
           have BK951 := n10_
           have GW951 := n11_
           have GE951 := n12_
           have NB898_951 := n13_
           have NB951_898 := n14_
           have NB899_951 := n15_
           have NB951_899 := n16_
           have NB900_951 := n17_
           have NB951_900 := n18_
           have NB910_951 := n19_
           have NB951_910 := n20_
           have NB917_951 := n21_
           have NB951_917 := n22_
           clear n0_ n1_ n2_ n3_ n4_ n5_ n6_ n7_ n8_ n9_ n10_ n11_ n12_ n13_ n14_ n15_ n16_ n17_ n18_ n19_ n20_ n21_ n22_ hb hbox hg
           refine hK.out _ _ ⟨bx_ BK898.out 0, bx_ BK898.out 1, bx_ BK898.out 2, bx_ BK898.out 3, bx_ BK898.out 4, bx_ BK917.out 0, bx_ BK917.out 1, bx_ BK917.out 2, bx_ BK917.out 3⟩ (fun hHeld => ?_)
           clear hK K
           refine norm_ (a' := ?_) ?_ ?_
           rotate_left
           ·
            show Act.put _ (some 60) _ = _
            simp only [fr_]
            rfl
           exact norm_ (by simp only [putAll, Act.put, List.setIfInBounds_toArray, List.set_cons_zero, List.set_cons_succ]) (hCont (v949, gbz949, gb951) _ ⟨hHeld, (by (with_reducible repeat (first | apply Kd.S_alloc | apply Kd.S_drewN | apply Kd.S_drew)); exact Kd.S_mono HO950.out (fun _ hk => ⟨hk.1.1.2, ⟨hk.1.2, ⟨hk.2, hk.1.1.1.2⟩⟩⟩)), (rp_ HO_911001.out), (by (with_reducible repeat (first | apply Kd.S_alloc | apply Kd.S_drewN | apply Kd.S_drew)); exact Kd.S_mono HO_911004.out (fun _ hk => ⟨hk.1.1.1, ⟨hk.1.1.2.1, ⟨hk.1.1.2.2.1, ⟨hk.1.1.2.2.2, ⟨hk.2, hk.1.2⟩⟩⟩⟩⟩)), (rp_ HO_918000.out), (pb_ BK898.out), (pb_ BK899.out), (pb_ BK900.out), (pb_ BK910.out), (pb_ BK917.out), (pb_ BK951.out), GW951.out, GE951.out, NB898_951.out, NB951_898.out, NB899_951.out, NB951_899.out, NB900_951.out, NB951_900.out, NB910_951.out, NB951_910.out, NB917_951.out, NB951_917.out, (by repeat (first | (with_reducible first | exact HB.out | apply ba_ | apply bn_ | apply bd_ | apply bs_ GE898 | apply bs_ GE899 | apply bs_ GE900 | apply bs_ GE910 | apply bs_ GE917 | apply bs_ GE951) | exact HB.out))⟩)
          skip
          refine box_stepL ?hg (N := 60) ?hd (cs := #[.slice Ao23 t911.length co23, .int .i64 t914, .int .i64 t915, .string t916]) (t := 44) ?hr ?_; (case hd => rfl); (case hg => rfl); (case hr => first | (go_simp; done) | (go_simp; rfl))
          intro gb951 hg w114 hbox hb
          have n0_ := Aside0.mk (Kd.R_below (rp_ HO_911001.out) hb)
          have n1_ := Aside0.mk (Kd.S_below (Kd.S_elderB (sp_ HO_911004.out) gb951 (Nat.le_of_eq hg.symm)) hb)
          have n2_ := Aside0.mk (Kd.R_below (rp_ HO_918000.out) hb)
          have n3_ := Aside0.mk (bb_ BK898.out hb)
          have n4_ := Aside0.mk (bb_ BK899.out hb)
          have n5_ := Aside0.mk (bb_ BK900.out hb)
          have n6_ := Aside0.mk (bb_ BK910.out hb)
          have n7_ := Aside0.mk (bb_ BK917.out hb)
          have n8_ := Aside0.mk (below_step (by repeat (first | (with_reducible first | exact HB.out | apply ba_ | apply bn_ | apply bd_ | apply bs_ GE898 | apply bs_ GE899 | apply bs_ GE900 | apply bs_ GE910 | apply bs_ GE917) | exact HB.out)) hb)
          have n9_ := Aside0.mk (hbox)
          have n10_ := Aside0.mk ((by rw [hg]; exact (below_size (by repeat (first | (with_reducible first | exact HB.out | apply ba_ | apply bn_ | apply bd_ | apply bs_ GE898 | apply bs_ GE899 | apply bs_ GE900 | apply bs_ GE910 | apply bs_ GE917) | exact HB.out))) : w.heap.size ≤ gb951))
          have n11_ := Aside0.mk ((by rw [hg]; exact (below_size (by repeat (first | (with_reducible first | exact HB.out | apply ba_ | apply bn_ | apply bd_ | apply bs_ GE898 | apply bs_ GE899 | apply bs_ GE900 | apply bs_ GE910 | apply bs_ GE917) | exact HB.out))) : w.heap.size ≤ gb951))
          have n12_ := Aside0.mk (nl_ BK898.out hg)
          have n13_ := Aside0.mk (ng_ BK898.out hg)
          have n14_ := Aside0.mk (nl_ BK899.out hg)
          have n15_ := Aside0.mk (ng_ BK899.out hg)
          have n16_ := Aside0.mk (nl_ BK900.out hg)
          have n17_ := Aside0.mk (ng_ BK900.out hg)
          have n18_ := Aside0.mk (nl_ BK910.out hg)
          have n19_ := Aside0.mk (ng_ BK910.out hg)
          have n20_ := Aside0.mk (nl_ BK917.out hg)
          have n21_ := Aside0.mk (ng_ BK917.out hg)
          clear HO_911001 HO_911004 HO_918000 BK898 BK899 BK900 BK910 BK917 HB
          have HO_911001 := n0_
          have HO_911004 := n1_
          have HO_918000 := n2_
          have BK898 := n3_
          have BK899 := n4_
          have BK900 := n5_
          have BK910 := n6_
          have BK917 := n7_
          have HB := n8_
          have BK951 := n9_
          have GW951 := n10_
          have GE951 := n11_
          have NB898_951 := n12_
          have NB951_898 := n13_
          have NB899_951 := n14_
          have NB951_899 := n15_
          have NB900_951 := n16_
          have NB951_900 := n17_
          have NB910_951 := n18_
          have NB951_910 := n19_
          have NB917_951 := n20_
          have NB951_917 := n21_
          clear n0_ n1_ n2_ n3_ n4_ n5_ n6_ n7_ n8_ n9_ n10_ n11_ n12_ n13_ n14_ n15_ n16_ n17_ n18_ n19_ n20_ n21_ hb hbox hg
          refine hK.out _ _ ⟨bx_ BK898.out 0, bx_ BK898.out 1, bx_ BK898.out 2, bx_ BK898.out 3, bx_ BK898.out 4, bx_ BK917.out 0, bx_ BK917.out 1, bx_ BK917.out 2, bx_ BK917.out 3⟩ (fun hHeld => ?_)
          clear hK K
          refine norm_ (a' := ?_) ?_ ?_
          rotate_left
          ·
           show Act.put _ (some 60) _ = _
           simp only [fr_]
           rfl
          refine one_ (i := 4) (N := some 58) #[t_,t_,t_,t_,t_,t_,t_,f_,t_,t_,t_,t_,f_,f_,f_,f_] rfl rfl (one_of HT_.out (by kernel_rfl)) (by decide) (fun K hK => ?_)
          refine goes_ Try.func100 (by kernel_rfl) rfl #[.slice A0_4 y944.length c0_4] (by rfl) rfl rfl (by (try simp only [mp_]); first | done | rfl | (simp only [List.length_drop, List.length_take]; rfl)) ?_
          with_reducible refine (spec_l4All.calls k2 _ _ y944 t948 _ ?side1 ?side2 A104.out).mono ?_
          (case side1 => exact cp_ ((Kd.C_below HR947.out HB.out)))
          (case side2 => exact HC947.out)
          rintro e w115 ⟨v949, rfl, ho0, hb⟩
          refine ⟨_, rfl, ?_⟩
          obtain ⟨gbz949, hz949⟩ := Kd.S_name ho0
          replace HO_911001 := Aside0.mk (Kd.R_below (Kd.R_ltz hz949 (rp_ HO_911001.out)) hb)
          replace HO_911004 := Aside0.mk (Kd.S_below (Kd.S_ltz hz949 (sp_ HO_911004.out)) hb)
          replace HO_918000 := Aside0.mk (Kd.R_below (Kd.R_ltz hz949 (rp_ HO_918000.out)) hb)
          have HO950 := Aside0.mk (Kd.S_lower (Kd.S_newB (Kd.S_newB (Kd.S_newB (Kd.S_gez hz949 ho0) (g := gb899) (o := .cells #[.slice A1_0 l1_0.length c1_0, .int .i64 a1_1, .int .i64 a1_2, .string a1_3] 44 (0, 0)) (pb_ BK899.out)) (g := gb917) (o := .cells #[.slice Ao23 t911.length co23, .int .i64 t914, .int .i64 t915, .string t916] 44 (0, 0)) (pb_ BK917.out)) (g := gb951) (o := .cells #[.slice Ao23 t911.length co23, .int .i64 t914, .int .i64 t915, .string t916] 44 (0, 0)) (pb_ BK951.out)) (below_size (by repeat (first | (with_reducible first | exact HB.out | apply ba_ | apply bn_ | apply bd_ | apply bs_ GE898 | apply bs_ GE899 | apply bs_ GE900 | apply bs_ GE910 | apply bs_ GE917 | apply bs_ GE951) | exact HB.out))))
          replace BK898 := Aside0.mk (bb_ BK898.out hb)
          replace BK899 := Aside0.mk (bb_ BK899.out hb)
          replace BK900 := Aside0.mk (bb_ BK900.out hb)
          replace BK910 := Aside0.mk (bb_ BK910.out hb)
          replace BK917 := Aside0.mk (bb_ BK917.out hb)
          replace BK951 := Aside0.mk (bb_ BK951.out hb)
          replace HB := Aside0.mk (below_step (by repeat (first | (with_reducible first | exact HB.out | apply ba_ | apply bn_ | apply bd_ | apply bs_ GE898 | apply bs_ GE899 | apply bs_ GE900 | apply bs_ GE910 | apply bs_ GE917 | apply bs_ GE951) | exact HB.out)) hb)
          (try clear hb)
          (try clear hb2)
          (try clear hk)
          (try clear hi)
          (try clear ho0)
          refine hK.out _ _ ⟨bx_ BK898.out 0, bx_ BK898.out 1, bx_ BK898.out 2, bx_ BK898.out 3, bx_ BK898.out 4, bx_ BK917.out 0, bx_ BK917.out 1, bx_ BK917.out 2, bx_ BK917.out 3⟩ (fun hHeld => ?_)
          clear hK K
          refine norm_ (a' := ?_) ?_ ?_
          rotate_left
          ·
           show Act.put _ (some 58) _ = _
           simp only [fr_]
           rfl
          exact norm_ (by simp only [putAll, Act.put, List.setIfInBounds_toArray, List.set_cons_zero, List.set_cons_succ]) (hCont (v949, gbz949, gb951) _ ⟨hHeld, (by (with_reducible repeat (first | apply Kd.S_alloc | apply Kd.S_drewN | apply Kd.S_drew)); exact Kd.S_mono HO950.out (fun _ hk => ⟨hk.1.1.2, ⟨hk.1.2, ⟨hk.2, hk.1.1.1.2⟩⟩⟩)), (rp_ HO_911001.out), (by (with_reducible repeat (first | apply Kd.S_alloc | apply Kd.S_drewN | apply Kd.S_drew)); exact Kd.S_mono HO_911004.out (fun _ hk => ⟨hk.1.1.1, ⟨hk.1.1.2.1, ⟨hk.1.1.2.2.1, ⟨hk.1.1.2.2.2, ⟨hk.1.2, hk.2⟩⟩⟩⟩⟩)), (rp_ HO_918000.out), (pb_ BK898.out), (pb_ BK899.out), (pb_ BK900.out), (pb_ BK910.out), (pb_ BK917.out), (pb_ BK951.out), GW951.out, GE951.out, NB898_951.out, NB951_898.out, NB899_951.out, NB951_899.out, NB900_951.out, NB951_900.out, NB910_951.out, NB951_910.out, NB917_951.out, NB951_917.out, (by repeat (first | (with_reducible first | exact HB.out | apply ba_ | apply bn_ | apply bd_ | apply bs_ GE898 | apply bs_ GE899 | apply bs_ GE900 | apply bs_ GE910 | apply bs_ GE917 | apply bs_ GE951) | exact HB.out))⟩)
         rintro ⟨v949, gbz949, gb951⟩ w116 ⟨hS_, h0_, h1_, h2_, h3_, h4_, h5_, h6_, h7_, h8_, h9_, h10_, h11_, h12_, h13_, h14_, h15_, h16_, h17_, h18_, h19_, h20_, h21_, h22_⟩
         have HO950 : Aside0 (Kd.S k44 44 w116 w.heap.size (fun k_ => k_ ≠ gb899 ∧ k_ ≠ gb917 ∧ k_ ≠ gb951 ∧ gbz949 ≤ k_) v949 t948) := ⟨h0_⟩
         replace HO_911001 : Aside0 (Kd.R k164 164 w116 w.heap.size (fun k_ => some k_ ≠ (.slice Ao23 t911.length co23 : Value).ownBlock ∧ k_ < gbz949) (.slice Ao17 t902.length co17) t902) := ⟨h1_⟩
         replace HO_911004 : Aside0 (Kd.S k44 44 w116 w.heap.size (fun k_ => some k_ ≠ (.slice Ao17 t902.length co17 : Value).ownBlock ∧ some k_ ≠ (.slice Ao23 t911.length co23 : Value).ownBlock ∧ k_ ≠ gb899 ∧ k_ ≠ gb917 ∧ k_ ≠ gb951 ∧ k_ < gbz949) u911004 x911004_1) := ⟨h2_⟩
         replace HO_918000 : Aside0 (Kd.R k164 164 w116 w.heap.size (fun k_ => some k_ ≠ (.slice Ao17 t902.length co17 : Value).ownBlock ∧ k_ < gbz949) (.slice Ao23 t911.length co23) t911) := ⟨h3_⟩
         replace BK898 : Aside0 (w116.heap[gb898]? = some (.cells #[.int .i64 a0_0, .slice A0_1 l0_1.length c0_1, .int .i64 a0_2, .int .i64 a0_3, .slice A0_4 l0_4.length c0_4] 75 (0, 0))) := ⟨h4_⟩
         replace BK899 : Aside0 (w116.heap[gb899]? = some (.cells #[.slice A1_0 l1_0.length c1_0, .int .i64 a1_1, .int .i64 a1_2, .string a1_3] 44 (0, 0))) := ⟨h5_⟩
         replace BK900 : Aside0 (w116.heap[gb900]? = some (.cells #[.int .i64 x901000_1, .slice none 0 0, .int .i64 x901002_1, .int .i64 x901003_1, .slice none 0 0] 75 (0, 0))) := ⟨h6_⟩
         replace BK910 : Aside0 (w116.heap[gb910]? = some (.cells #[.int .i64 t901, .slice Ao17 t902.length co17, .int .i64 t905, .int .i64 t906, u911004] 75 (0, 0))) := ⟨h7_⟩
         replace BK917 : Aside0 (w116.heap[gb917]? = some (.cells #[.slice Ao23 t911.length co23, .int .i64 t914, .int .i64 t915, .string t916] 44 (0, 0))) := ⟨h8_⟩
         have BK951 : Aside0 (w116.heap[gb951]? = some (.cells #[.slice Ao23 t911.length co23, .int .i64 t914, .int .i64 t915, .string t916] 44 (0, 0))) := ⟨h9_⟩
         have GW951 : Aside0 (w.heap.size ≤ gb951) := ⟨h10_⟩
         have GE951 : Aside0 (w.heap.size ≤ gb951) := ⟨h11_⟩
         have NB898_951 : Aside0 (gb898 ≠ gb951) := ⟨h12_⟩
         have NB951_898 : Aside0 (gb951 ≠ gb898) := ⟨h13_⟩
         have NB899_951 : Aside0 (gb899 ≠ gb951) := ⟨h14_⟩
         have NB951_899 : Aside0 (gb951 ≠ gb899) := ⟨h15_⟩
         have NB900_951 : Aside0 (gb900 ≠ gb951) := ⟨h16_⟩
         have NB951_900 : Aside0 (gb951 ≠ gb900) := ⟨h17_⟩
         have NB910_951 : Aside0 (gb910 ≠ gb951) := ⟨h18_⟩
         have NB951_910 : Aside0 (gb951 ≠ gb910) := ⟨h19_⟩
         have NB917_951 : Aside0 (gb917 ≠ gb951) := ⟨h20_⟩
         have NB951_917 : Aside0 (gb951 ≠ gb917) := ⟨h21_⟩
         replace HB : Aside0 (Below w.heap.size w w116) := ⟨h22_⟩
         clear h0_ h1_ h2_ h3_ h4_ h5_ h6_ h7_ h8_ h9_ h10_ h11_ h12_ h13_ h14_ h15_ h16_ h17_ h18_ h19_ h20_ h21_ h22_
         have hHeld : w116.cell? ⟨gb898, 0, none⟩ = some (.int .i64 a0_0) ∧ w116.cell? ⟨gb898, 1, none⟩ = some (.slice A0_1 l0_1.length c0_1) ∧ w116.cell? ⟨gb898, 2, none⟩ = some (.int .i64 a0_2) ∧ w116.cell? ⟨gb898, 3, none⟩ = some (.int .i64 a0_3) ∧ w116.cell? ⟨gb898, 4, none⟩ = some (.slice A0_4 l0_4.length c0_4) ∧ w116.cell? ⟨gb917, 0, none⟩ = some (.slice Ao23 t911.length co23) ∧ w116.cell? ⟨gb917, 1, none⟩ = some (.int .i64 t914) ∧ w116.cell? ⟨gb917, 2, none⟩ = some (.int .i64 t915) ∧ w116.cell? ⟨gb917, 3, none⟩ = some (.string t916) := hS_
         refine norm_ (a' := ?_) ?_ ?_
         rotate_left
         ·
          simp only [putAll, Act.put, List.setIfInBounds_toArray, List.set_cons_zero, List.set_cons_succ]
          rfl
         refine one_ (i := 7) (N := some 61) #[t_,t_,t_,t_,t_,t_,t_,t_,t_,t_,t_,t_,f_,f_,f_,f_] rfl rfl (one_of HT_.out (by kernel_rfl)) (by decide) (fun K hK => ?_)
         refine Kd.S_append_box_step k44 (w0 := w) w.heap.size (by rfl) (.tmp 58) (.tmp 60) 37 44 (.agg #[(.slice none 0 0), (.int .i64 0), (.int .i64 0), (.string ⟨#[]⟩)]) 56 rfl Try.underlying37 info44 rfl (by decide) (by omega) v949 t948 (⟨t911, t914, t915, t916⟩ : S44) [.slice Ao23 t911.length co23, .int .i64 t914, .int .i64 t915, .string t916] (fun k_ => some k_ ≠ (.slice Ao17 t902.length co17 : Value).ownBlock ∧ some k_ ≠ (u911004 : Value).ownBlock ∧ k_ ≠ gb899 ∧ k_ ≠ gb917 ∧ k_ ≠ gb951) (fun k_ => some k_ = (.slice Ao23 t911.length co23 : Value).ownBlock) gb951 (pb_ BK951.out) rfl rfl ?aP (fun k_ hk_ => ((Kd.R_mono (ok' := fun k_ => ((fun k_ => some k_ ≠ (.slice Ao17 t902.length co17 : Value).ownBlock ∧ some k_ ≠ (u911004 : Value).ownBlock ∧ k_ ≠ gb899 ∧ k_ ≠ gb917 ∧ k_ ≠ gb951)) k_ ∧ some k_ ≠ (v949 : Value).ownBlock) (Kd.R_types (Kd.R_types (Kd.R_types (Kd.R_apart' (Kd.R_apart' (HO_918000.out) (Kd.S_typed HO_911004.out) (by decide)) (Kd.S_typed HO950.out) (by decide)) BK899.out (by decide)) BK917.out (by decide)) BK951.out (by decide)) (fun k_ hk => ⟨⟨hk.1.1.1.1.1.1, ⟨hk.1.1.1.1.2, ⟨hk.1.1.2, ⟨hk.1.2, hk.2⟩⟩⟩⟩, hk.1.1.1.2⟩))).1 k_ hk_.symm) ?aF ?aO ?aB ?aS ?aL ?_
         (case aP => exact k44_mkM _ _ _ (⟨t911, t914, t915, t916⟩ : S44) (Kd.R_mono (Kd.R_tight rfl (Kd.R_mono (ok' := fun k_ => ((fun k_ => some k_ ≠ (.slice Ao17 t902.length co17 : Value).ownBlock ∧ some k_ ≠ (u911004 : Value).ownBlock ∧ k_ ≠ gb899 ∧ k_ ≠ gb917 ∧ k_ ≠ gb951)) k_ ∧ some k_ ≠ (v949 : Value).ownBlock) (Kd.R_types (Kd.R_types (Kd.R_types (Kd.R_apart' (Kd.R_apart' (HO_918000.out) (Kd.S_typed HO_911004.out) (by decide)) (Kd.S_typed HO950.out) (by decide)) BK899.out (by decide)) BK917.out (by decide)) BK951.out (by decide)) (fun k_ hk => ⟨⟨hk.1.1.1.1.1.1, ⟨hk.1.1.1.1.2, ⟨hk.1.1.2, ⟨hk.1.2, hk.2⟩⟩⟩⟩, hk.1.1.1.2⟩))) (fun _ h_ => h_)))
         (case aB => exact (by repeat (first | (with_reducible first | exact HB.out | apply ba_ | apply bn_ | apply bd_ | apply bs_ GE898 | apply bs_ GE899 | apply bs_ GE900 | apply bs_ GE910 | apply bs_ GE917 | apply bs_ GE951) | exact HB.out)))
         (case aF => exact (fun k_ hk => ⟨Kd.fresh' (Kd.R_lt (rp_ HO_911001.out)) k_ hk, Kd.fresh' (Kd.S_lt (sp_ HO_911004.out)) k_ hk, Kd.freshB (g := gb899) (o := .cells #[.slice A1_0 l1_0.length c1_0, .int .i64 a1_1, .int .i64 a1_2, .string a1_3] 44 (0, 0)) (pb_ BK899.out) k_ hk, Kd.freshB (g := gb917) (o := .cells #[.slice Ao23 t911.length co23, .int .i64 t914, .int .i64 t915, .string t916] 44 (0, 0)) (pb_ BK917.out) k_ hk, Kd.freshB (g := gb951) (o := .cells #[.slice Ao23 t911.length co23, .int .i64 t914, .int .i64 t915, .string t916] 44 (0, 0)) (pb_ BK951.out) k_ hk⟩))
         (case aO => exact (by (with_reducible repeat (first | apply Kd.S_alloc | apply Kd.S_drewN | apply Kd.S_drew)); exact Kd.S_mono (Kd.S_times (Kd.S_times HO950.out HO_911001.out.1 (fun k_ hk hz_ => Nat.lt_irrefl _ (Nat.lt_of_lt_of_le hz_.2 hk.2.2.2))) (Kd.S_R HO_911004.out).1 (fun k_ hk hz_ => Nat.lt_irrefl _ (Nat.lt_of_lt_of_le hz_.2.2.2.2.2 hk.1.2.2.2))) (fun k_ hk => ⟨⟨hk.1.2, ⟨hk.2, ⟨hk.1.1.1, ⟨hk.1.1.2.1, hk.1.1.2.2.1⟩⟩⟩⟩, fun e_ => (fun ez_ => Nat.lt_irrefl _ (Nat.lt_of_lt_of_le (HO_918000.out.1 _ ez_.symm).2 hk.1.1.2.2.2)) e_⟩)))
         (case aS => exact (below_size (by repeat (first | (with_reducible first | exact HB.out | apply ba_ | apply bn_ | apply bd_ | apply bs_ GE898 | apply bs_ GE899 | apply bs_ GE900 | apply bs_ GE910 | apply bs_ GE917 | apply bs_ GE951) | exact HB.out))))
         (case aL => have := LMc105.out; omega)
         intro v953 w117 ho hb hg hat
         rw [← Ny952.out] at ho
         have n0_ := Aside0.mk (Kd.R_over' (rp_ HO_911001.out) (Kd.S_typed (sp_ HO950.out)) (by decide) hg)
         have n1_ := Aside0.mk (Kd.S_after (ok := (fun k_ => some k_ ≠ (.slice Ao17 t902.length co17 : Value).ownBlock ∧ some k_ ≠ (.slice Ao23 t911.length co23 : Value).ownBlock ∧ k_ ≠ gb899 ∧ k_ ≠ gb917 ∧ k_ ≠ gb951 ∧ k_ < gbz949)) (by (with_reducible repeat (first | apply Kd.S_alloc | apply Kd.S_drewN | apply Kd.S_drew)); exact (Kd.S_times HO_911004.out (Kd.S_R HO950.out).1 (fun k_ hk hz_ => Nat.lt_irrefl _ (Nat.lt_of_lt_of_le hk.2.2.2.2.2 hz_.2.2.2)))) hg hat)
         have n2_ := Aside0.mk (blk_grown (g := gb898) (o := .cells #[.int .i64 a0_0, .slice A0_1 l0_1.length c0_1, .int .i64 a0_2, .int .i64 a0_3, .slice A0_4 l0_4.length c0_4] 75 (0, 0)) (pb_ BK898.out) hg (Kd.S_ne HO950.out BK898.out (by decide)))
         have n3_ := Aside0.mk (blk_grown (g := gb899) (o := .cells #[.slice A1_0 l1_0.length c1_0, .int .i64 a1_1, .int .i64 a1_2, .string a1_3] 44 (0, 0)) (pb_ BK899.out) hg (Kd.S_away HO950.out (fun _ hk => hk.1)))
         have n4_ := Aside0.mk (blk_grown (g := gb900) (o := .cells #[.int .i64 x901000_1, .slice none 0 0, .int .i64 x901002_1, .int .i64 x901003_1, .slice none 0 0] 75 (0, 0)) (pb_ BK900.out) hg (Kd.S_ne HO950.out BK900.out (by decide)))
         have n5_ := Aside0.mk (blk_grown (g := gb910) (o := .cells #[.int .i64 t901, .slice Ao17 t902.length co17, .int .i64 t905, .int .i64 t906, u911004] 75 (0, 0)) (pb_ BK910.out) hg (Kd.S_ne HO950.out BK910.out (by decide)))
         have n6_ := Aside0.mk (blk_grown (g := gb917) (o := .cells #[.slice Ao23 t911.length co23, .int .i64 t914, .int .i64 t915, .string t916] 44 (0, 0)) (pb_ BK917.out) hg (Kd.S_away HO950.out (fun _ hk => hk.2.1)))
         have n7_ := Aside0.mk (blk_grown (g := gb951) (o := .cells #[.slice Ao23 t911.length co23, .int .i64 t914, .int .i64 t915, .string t916] 44 (0, 0)) (pb_ BK951.out) hg (Kd.S_away HO950.out (fun _ hk => hk.2.2.1)))
         have n8_ := Aside0.mk (hb)
         have n9_ := Aside0.mk (ho)
         clear HO_911001 HO_911004 BK898 BK899 BK900 BK910 BK917 BK951 HB HO950 HO_918000
         have HO_911001 := n0_
         have HO_911004 := n1_
         have BK898 := n2_
         have BK899 := n3_
         have BK900 := n4_
         have BK910 := n5_
         have BK917 := n6_
         have BK951 := n7_
         have HB := n8_
         have HO954 := n9_
         clear n0_ n1_ n2_ n3_ n4_ n5_ n6_ n7_ n8_ n9_ ho hb hg hat
         refine hK.out _ _ ⟨bx_ BK898.out 0, bx_ BK898.out 1, bx_ BK898.out 2, bx_ BK898.out 3, bx_ BK898.out 4, bx_ BK917.out 0, bx_ BK917.out 1, bx_ BK917.out 2, bx_ BK917.out 3⟩ (fun hHeld => ?_)
         clear hK K
         refine norm_ (a' := ?_) ?_ ?_
         rotate_left
         ·
          show Act.put _ (some 61) _ = _
          simp only [fr_]
          rfl
         refine one_ (i := 12) (N := some 66) #[t_,t_,t_,t_,t_,t_,t_,t_,t_,t_,t_,t_,t_,f_,f_,f_] rfl rfl (one_of HT_.out (by kernel_rfl)) (by decide) (fun K hK => ?_)
         refine goes_ Try.func100 (by kernel_rfl) rfl #[.slice A113 y955.length c113] (by rfl) rfl rfl (by (try simp only [mp_]); first | done | rfl | (simp only [List.length_drop, List.length_take]; rfl)) ?_
         with_reducible refine (spec_l4All.calls k2 _ _ y955 t959 _ ?side1 ?side2 A108.out).mono ?_
         (case side1 => exact cp_ ((Kd.C_below HR958.out HB.out)))
         (case side2 => exact HC958.out)
         rintro e w118 ⟨v960, rfl, ho0, hb⟩
         refine ⟨_, rfl, ?_⟩
         obtain ⟨gbz960, hz960⟩ := Kd.S_name ho0
         replace HO_911001 := Aside0.mk (Kd.R_below (Kd.R_ltz hz960 (rp_ HO_911001.out)) hb)
         replace HO_911004 := Aside0.mk (Kd.S_below (Kd.S_ltz hz960 (sp_ HO_911004.out)) hb)
         replace HO954 := Aside0.mk (Kd.S_below (Kd.S_ltz hz960 (sp_ HO954.out)) hb)
         have HO961 := Aside0.mk (Kd.S_lower (Kd.S_newB (Kd.S_newB (Kd.S_newB (Kd.S_gez hz960 ho0) (g := gb899) (o := .cells #[.slice A1_0 l1_0.length c1_0, .int .i64 a1_1, .int .i64 a1_2, .string a1_3] 44 (0, 0)) (pb_ BK899.out)) (g := gb917) (o := .cells #[.slice Ao23 t911.length co23, .int .i64 t914, .int .i64 t915, .string t916] 44 (0, 0)) (pb_ BK917.out)) (g := gb951) (o := .cells #[.slice Ao23 t911.length co23, .int .i64 t914, .int .i64 t915, .string t916] 44 (0, 0)) (pb_ BK951.out)) (below_size (by repeat (first | (with_reducible first | exact HB.out | apply ba_ | apply bn_ | apply bd_ | apply bs_ GE898 | apply bs_ GE899 | apply bs_ GE900 | apply bs_ GE910 | apply bs_ GE917 | apply bs_ GE951) | exact HB.out))))
         replace BK898 := Aside0.mk (bb_ BK898.out hb)
         replace BK899 := Aside0.mk (bb_ BK899.out hb)
         replace BK900 := Aside0.mk (bb_ BK900.out hb)
         replace BK910 := Aside0.mk (bb_ BK910.out hb)
         replace BK917 := Aside0.mk (bb_ BK917.out hb)
         replace BK951 := Aside0.mk (bb_ BK951.out hb)
         replace HB := Aside0.mk (below_step (by repeat (first | (with_reducible first | exact HB.out | apply ba_ | apply bn_ | apply bd_ | apply bs_ GE898 | apply bs_ GE899 | apply bs_ GE900 | apply bs_ GE910 | apply bs_ GE917 | apply bs_ GE951) | exact HB.out)) hb)
         (try clear hb)
         (try clear hb2)
         (try clear hk)
         (try clear hi)
         (try clear ho0)
         obtain ⟨Ao120, co120, eo120⟩ := Kd.S_slice HO961.out
         (first | subst eo120 | (injection eo120 with f1_ f2_ f3_; have f4_ := f1_.symm; have f5_ := f3_.symm; clear f1_ f2_ f3_; subst f4_; subst f5_))
         obtain ⟨PXP121, hPXP121, hPlP121⟩ := Kd.S_fp ((Kd.S_mono (Kd.S_mono (Kd.S_mono HO961.out (fun k_ hk => (⟨hk, fun ez_ => Nat.lt_irrefl _ (Nat.lt_of_lt_of_le (HO_911001.out.1 _ ez_.symm).2 hk.1.1.1.2)⟩ : _ ∧ some k_ ≠ (.slice Ao17 t902.length co17 : Value).ownBlock))) (fun k_ hk => (⟨hk, fun ez_ => Nat.lt_irrefl _ (Nat.lt_of_lt_of_le ((Kd.S_R HO_911004.out).1 _ ez_.symm).2 hk.1.1.1.1.2)⟩ : _ ∧ some k_ ≠ (u911004 : Value).ownBlock))) (fun k_ hk => (⟨hk, fun ez_ => Nat.lt_irrefl _ (Nat.lt_of_lt_of_le ((Kd.S_R HO954.out).1 _ ez_.symm).2 hk.1.1.1.1.1.2)⟩ : _ ∧ some k_ ≠ (v953 : Value).ownBlock))))
         refine hK.out _ _ ⟨bx_ BK898.out 0, bx_ BK898.out 1, bx_ BK898.out 2, bx_ BK898.out 3, bx_ BK898.out 4, bx_ BK917.out 0, bx_ BK917.out 1, bx_ BK917.out 2, bx_ BK917.out 3⟩ (fun hHeld => ?_)
         clear hK K
         refine norm_ (a' := ?_) ?_ ?_
         rotate_left
         ·
          show Act.put _ (some 66) _ = _
          simp only [fr_]
          rfl
         refine one_ (i := 13) (N := some 67) #[t_,t_,t_,t_,t_,t_,t_,t_,t_,t_,t_,t_,t_,t_,f_,f_] rfl rfl (one_of HT_.out (by kernel_rfl)) (by decide) (fun K hK => ?_)
         refine Kd.S_append_rows_step k44 (w0 := w) w.heap.size (by rfl) (.tmp 61) (.tmp 66) 37 44 (.agg #[(.slice none 0 0), (.int .i64 0), (.int .i64 0), (.string ⟨#[]⟩)]) 56 rfl Try.underlying37 info44 rfl (by decide) (by omega) v953 y952 t959 _ _ _ (fun k_ => some k_ ≠ (.slice Ao17 t902.length co17 : Value).ownBlock ∧ some k_ ≠ (u911004 : Value).ownBlock ∧ k_ ≠ gb899 ∧ k_ ≠ gb917 ∧ k_ ≠ gb951) PXP121 rfl rfl ?aR (fun k_ hk_ => ⟨⟨(hPlP121 k_ hk_).1.1.1.2, ⟨(hPlP121 k_ hk_).1.1.2, ⟨(hPlP121 k_ hk_).1.1.1.1.1.1.2, ⟨(hPlP121 k_ hk_).1.1.1.1.1.2, (hPlP121 k_ hk_).1.1.1.1.2⟩⟩⟩⟩, (hPlP121 k_ hk_).1.2⟩) ?aF ?aO ?aB ?aS ?aL ?_
         (case aR => exact hPXP121)
         (case aB => exact (by repeat (first | (with_reducible first | exact HB.out | apply ba_ | apply bn_ | apply bd_ | apply bs_ GE898 | apply bs_ GE899 | apply bs_ GE900 | apply bs_ GE910 | apply bs_ GE917 | apply bs_ GE951) | exact HB.out)))
         (case aF => exact (fun k_ hk => ⟨Kd.fresh' (Kd.R_lt (rp_ HO_911001.out)) k_ hk, Kd.fresh' (Kd.S_lt (sp_ HO_911004.out)) k_ hk, Kd.freshB (g := gb899) (o := .cells #[.slice A1_0 l1_0.length c1_0, .int .i64 a1_1, .int .i64 a1_2, .string a1_3] 44 (0, 0)) (pb_ BK899.out) k_ hk, Kd.freshB (g := gb917) (o := .cells #[.slice Ao23 t911.length co23, .int .i64 t914, .int .i64 t915, .string t916] 44 (0, 0)) (pb_ BK917.out) k_ hk, Kd.freshB (g := gb951) (o := .cells #[.slice Ao23 t911.length co23, .int .i64 t914, .int .i64 t915, .string t916] 44 (0, 0)) (pb_ BK951.out) k_ hk⟩))
         (case aO => exact (by (with_reducible repeat (first | apply Kd.S_alloc | apply Kd.S_drewN | apply Kd.S_drew)); exact Kd.S_mono HO954.out (fun k_ hk => ⟨⟨hk.1.1, ⟨hk.1.2.1, ⟨hk.1.2.2.1, ⟨hk.1.2.2.2.1, hk.1.2.2.2.2⟩⟩⟩⟩, fun e_ => (fun ez_ => Nat.lt_irrefl _ (Nat.lt_of_lt_of_le hk.2 (hPlP121 _ ez_).1.1.1.1.1.1.1.2)) e_⟩)))
         (case aS => exact (below_size (by repeat (first | (with_reducible first | exact HB.out | apply ba_ | apply bn_ | apply bd_ | apply bs_ GE898 | apply bs_ GE899 | apply bs_ GE900 | apply bs_ GE910 | apply bs_ GE917 | apply bs_ GE951) | exact HB.out))))
         (case aL => have := LMc109.out; omega)
         intro v963 w119 ho hb hg hat
         rw [← Ny962.out] at ho
         have n0_ := Aside0.mk (Kd.R_over' (rp_ HO_911001.out) (Kd.S_typed (sp_ HO954.out)) (by decide) hg)
         have n1_ := Aside0.mk (Kd.S_after (ok := (fun k_ => some k_ ≠ (.slice Ao17 t902.length co17 : Value).ownBlock ∧ k_ ≠ gb899 ∧ k_ ≠ gb917 ∧ k_ ≠ gb951 ∧ k_ < gbz949 ∧ k_ < gbz960)) (by (with_reducible repeat (first | apply Kd.S_alloc | apply Kd.S_drewN | apply Kd.S_drew)); exact Kd.S_mono HO_911004.out (fun _ hk => ⟨⟨hk.1.1.1, ⟨hk.1.1.2.2.1, ⟨hk.1.1.2.2.2.1, ⟨hk.1.1.2.2.2.2.1, ⟨hk.1.1.2.2.2.2.2, hk.2⟩⟩⟩⟩⟩, hk.1.2⟩)) hg hat)
         have n2_ := Aside0.mk (blk_grown (g := gb898) (o := .cells #[.int .i64 a0_0, .slice A0_1 l0_1.length c0_1, .int .i64 a0_2, .int .i64 a0_3, .slice A0_4 l0_4.length c0_4] 75 (0, 0)) (pb_ BK898.out) hg (Kd.S_ne HO954.out BK898.out (by decide)))
         have n3_ := Aside0.mk (blk_grown (g := gb899) (o := .cells #[.slice A1_0 l1_0.length c1_0, .int .i64 a1_1, .int .i64 a1_2, .string a1_3] 44 (0, 0)) (pb_ BK899.out) hg (Kd.S_away HO954.out (fun _ hk => hk.1.2.2.1)))
         have n4_ := Aside0.mk (blk_grown (g := gb900) (o := .cells #[.int .i64 x901000_1, .slice none 0 0, .int .i64 x901002_1, .int .i64 x901003_1, .slice none 0 0] 75 (0, 0)) (pb_ BK900.out) hg (Kd.S_ne HO954.out BK900.out (by decide)))
         have n5_ := Aside0.mk (blk_grown (g := gb910) (o := .cells #[.int .i64 t901, .slice Ao17 t902.length co17, .int .i64 t905, .int .i64 t906, u911004] 75 (0, 0)) (pb_ BK910.out) hg (Kd.S_ne HO954.out BK910.out (by decide)))
         have n6_ := Aside0.mk (blk_grown (g := gb917) (o := .cells #[.slice Ao23 t911.length co23, .int .i64 t914, .int .i64 t915, .string t916] 44 (0, 0)) (pb_ BK917.out) hg (Kd.S_away HO954.out (fun _ hk => hk.1.2.2.2.1)))
         have n7_ := Aside0.mk (blk_grown (g := gb951) (o := .cells #[.slice Ao23 t911.length co23, .int .i64 t914, .int .i64 t915, .string t916] 44 (0, 0)) (pb_ BK951.out) hg (Kd.S_away HO954.out (fun _ hk => hk.1.2.2.2.2)))
         have n8_ := Aside0.mk (hb)
         have n9_ := Aside0.mk (ho)
         clear HO_911001 HO_911004 BK898 BK899 BK900 BK910 BK917 BK951 HB HO954 HO961
         have HO_911001 := n0_
         have HO_911004 := n1_
         have BK898 := n2_
         have BK899 := n3_
         have BK900 := n4_
         have BK910 := n5_
         have BK917 := n6_
         have BK951 := n7_
         have HB := n8_
         have HO964 := n9_
         clear n0_ n1_ n2_ n3_ n4_ n5_ n6_ n7_ n8_ n9_ ho hb hg hat
         obtain ⟨Ao122, co122, eo122⟩ := Kd.S_slice HO964.out
         (first | subst eo122 | (injection eo122 with f1_ f2_ f3_; have f4_ := f1_.symm; have f5_ := f3_.symm; clear f1_ f2_ f3_; subst f4_; subst f5_))
         refine hK.out _ _ ⟨bx_ BK898.out 0, bx_ BK898.out 1, bx_ BK898.out 2, bx_ BK898.out 3, bx_ BK898.out 4, bx_ BK917.out 0, bx_ BK917.out 1, bx_ BK917.out 2, bx_ BK917.out 3⟩ (fun hHeld => ?_)
         clear hK K
         refine norm_ (a' := ?_) ?_ ?_
         rotate_left
         ·
          show Act.put _ (some 67) _ = _
          simp only [fr_]
          rfl
         refine pu_ 14 68 ?_ (b_ 15 1) rfl rfl HT_.out ?_ ?_ ?_ ?_; rotate_left; intro w'; go_simp; with_reducible rfl; rotate_left; simp only [fr_]; rfl
         refine one_ (i := 15) (N := none) #[t_,t_,t_,t_,t_,t_,t_,t_,t_,t_,t_,t_,t_,t_,t_,t_] rfl rfl (one_of HT_.out (by kernel_rfl)) (by decide) (fun K hK => ?_)
         have hs123 : w119.cell? ⟨gb910, 4, none⟩ = some (u911004) := bx_ BK910.out 4
         have hfs123 := blk_frozen BK910.out 4
         have hns123_0 := NB898_910.out
         have hns123_1 := NB899_910.out
         have hns123_2 := NB900_910.out
         have hns123_4 := NB917_910.out
         have hns123_5 := NB951_910.out
         have hms123_0 := NB910_898.out
         have hms123_1 := NB910_899.out
         have hms123_2 := NB910_900.out
         have hms123_4 := NB910_917.out
         have hms123_5 := NB910_951.out
         refine skip_ (w1 := ?_) (by rfl) rfl ?_ ?_
         rotate_left
         ·
          go_simp
          rfl
         refine hK.out _ _ ⟨((cell_far (p := ⟨gb910, _, none⟩) NB898_910.out _).trans (hHeld.1)), ((cell_far (p := ⟨gb910, _, none⟩) NB898_910.out _).trans (hHeld.2.1)), ((cell_far (p := ⟨gb910, _, none⟩) NB898_910.out _).trans (hHeld.2.2.1)), ((cell_far (p := ⟨gb910, _, none⟩) NB898_910.out _).trans (hHeld.2.2.2.1)), ((cell_far (p := ⟨gb910, _, none⟩) NB898_910.out _).trans (hHeld.2.2.2.2.1)), ((cell_far (p := ⟨gb910, _, none⟩) NB917_910.out _).trans (hHeld.2.2.2.2.2.1)), ((cell_far (p := ⟨gb910, _, none⟩) NB917_910.out _).trans (hHeld.2.2.2.2.2.2.1)), ((cell_far (p := ⟨gb910, _, none⟩) NB917_910.out _).trans (hHeld.2.2.2.2.2.2.2.1)), ((cell_far (p := ⟨gb910, _, none⟩) NB917_910.out _).trans (hHeld.2.2.2.2.2.2.2.2))⟩ (fun hHeld => ?_)
         clear hK K
         refine done_ (done_of HT_.out (by kernel_rfl)) ?_
         have hnb124 := NB910_898.out
         have hnc124 := NB898_910.out
         have hnb125 := NB910_899.out
         have hnc125 := NB899_910.out
         have hnb126 := NB910_900.out
         have hnc126 := NB900_910.out
         have hnb127 := NB910_917.out
         have hnc127 := NB917_910.out
         have hnb128 := NB910_951.out
         have hnc128 := NB951_910.out
         obtain ⟨hcz129_0, hcz129_1, hcz129_2, hcz129_3, hcz129_4, hfz129_0, hfz129_1, hfz129_2, hfz129_3, hfz129_4⟩ := bc5_ BK910.out
         have hnb130 := NB900_898.out
         have hnc130 := NB898_900.out
         have hnb131 := NB900_899.out
         have hnc131 := NB899_900.out
         have hnb132 := NB900_917.out
         have hnc132 := NB917_900.out
         have hnb133 := NB900_951.out
         have hnc133 := NB951_900.out
         obtain ⟨hcz134_0, hcz134_1, hcz134_2, hcz134_3, hcz134_4, hfz134_0, hfz134_1, hfz134_2, hfz134_3, hfz134_4⟩ := bc5_ BK900.out
         try go_wp2
         refine bodyPost_ret (results_cell_row rfl _ _ gb900 75 #[.int .i64 t901, .slice Ao17 t902.length co17, .int .i64 t905, .int .i64 t906, .slice Ao122 y962.length co122] (0, 0) _ rfl (by (with_reducible repeat (first | refine kn_ ?_ _ | refine kd_ ?_ | refine ka_ ?_ _)); refine blk_put (cs := #[.int .i64 t901, .slice Ao17 t902.length co17, .int .i64 t905, .int .i64 t906, .slice none 0 0]) ?_ 4 _ rfl; (with_reducible repeat (first | refine kn_ ?_ _ | refine kd_ ?_ | refine ka_ ?_ _)); refine blk_put (cs := #[.int .i64 t901, .slice Ao17 t902.length co17, .int .i64 t905, .int .i64 x901003_1, .slice none 0 0]) ?_ 3 _ rfl; (with_reducible repeat (first | refine kn_ ?_ _ | refine kd_ ?_ | refine ka_ ?_ _)); refine blk_put (cs := #[.int .i64 t901, .slice Ao17 t902.length co17, .int .i64 x901002_1, .int .i64 x901003_1, .slice none 0 0]) ?_ 2 _ rfl; (with_reducible repeat (first | refine kn_ ?_ _ | refine kd_ ?_ | refine ka_ ?_ _)); refine blk_put (cs := #[.int .i64 t901, .slice none 0 0, .int .i64 x901002_1, .int .i64 x901003_1, .slice none 0 0]) ?_ 1 _ rfl; (with_reducible repeat (first | refine kn_ ?_ _ | refine kd_ ?_ | refine ka_ ?_ _)); refine blk_put (cs := #[.int .i64 x901000_1, .slice none 0 0, .int .i64 x901002_1, .int .i64 x901003_1, .slice none 0 0]) ?_ 0 _ rfl; (with_reducible repeat (first | refine kn_ ?_ _ | refine kd_ ?_ | refine ka_ ?_ _)); refine blk_far ?_ NB900_910.out _; (with_reducible repeat (first | refine kn_ ?_ _ | refine kd_ ?_ | refine ka_ ?_ _)); exact BK900.out) Try.underlying75 rfl (by kernel_rfl)) rfl ?_
         exact ⟨_, _, by first | rfl | (simp [errW_none, errW_some] <;> rfl) | (simp [*, errW_none, errW_some] <;> rfl), by (with_reducible repeat (first | apply Kd.R_alloc | apply Kd.R_drewN | apply Kd.R_drew)); exact Kd.R_mono (Kd.R_far (p := ⟨gb900, 4, none⟩) (Kd.R_far (p := ⟨gb900, 3, none⟩) (Kd.R_far (p := ⟨gb900, 2, none⟩) (Kd.R_far (p := ⟨gb900, 1, none⟩) (Kd.R_far (p := ⟨gb900, 0, none⟩) (Kd.R_far (p := ⟨gb910, 4, none⟩) (Kd.R_types (Kd.R_types HO_911001.out BK910.out (by decide)) BK900.out (by decide)) (fun _ hk => hk.1.2) (.slice Ao122 y962.length co122)) (fun _ hk => hk.2) (.int .i64 t901)) (fun _ hk => hk.2) (.slice Ao17 t902.length co17)) (fun _ hk => hk.2) (.int .i64 t905)) (fun _ hk => hk.2) (.int .i64 t906)) (fun _ hk => hk.2) (.slice Ao122 y962.length co122)) (fun _ hk => trivial), by (with_reducible repeat (first | apply Kd.S_alloc | apply Kd.S_drewN | apply Kd.S_drew)); exact Kd.S_mono (Kd.S_far (p := ⟨gb900, 4, none⟩) (Kd.S_far (p := ⟨gb900, 3, none⟩) (Kd.S_far (p := ⟨gb900, 2, none⟩) (Kd.S_far (p := ⟨gb900, 1, none⟩) (Kd.S_far (p := ⟨gb900, 0, none⟩) (Kd.S_far (p := ⟨gb910, 4, none⟩) (Kd.S_types (Kd.S_types HO964.out BK910.out (by decide)) BK900.out (by decide)) (fun _ hk => hk.1.2) (.slice Ao122 y962.length co122)) (fun _ hk => hk.2) (.int .i64 t901)) (fun _ hk => hk.2) (.slice Ao17 t902.length co17)) (fun _ hk => hk.2) (.int .i64 t905)) (fun _ hk => hk.2) (.int .i64 t906)) (fun _ hk => hk.2) (.slice Ao122 y962.length co122)) (fun _ hk => hk.1.1.1), by repeat (first | (with_reducible first | exact HB.out | apply ba_ | apply bn_ | apply bd_ | apply bs_ GE898 | apply bs_ GE899 | apply bs_ GE900 | apply bs_ GE910 | apply bs_ GE917 | apply bs_ GE951) | exact HB.out)⟩
        rw [if_neg c109] at H
        exact absurd H (by simp)
       rw [if_neg c105] at H
       exact absurd H (by simp)
      rw [if_neg c103] at H
      exact absurd H (by simp)
     rw [if_neg c102] at H
     exact absurd H (by simp)
def spec_l12Copy.l0 : Nat → List (S75) → List (S75) → Int → Option ((List (S75)))
 | 0, _, _, _ => none
 | k + 1, x0, x3, x4 => if x4 < (x0.length : Int) then (if 0 ≤ x4 then ((spec_l11Copy.f k ((rd_T75 x0 x4).f0) ((rd_T75 x0 x4).f1) ((rd_T75 x0 x4).f2) ((rd_T75 x0 x4).f3) ((rd_T75 x0 x4).f4)).bind fun bt1402 => (if x3.length < 1954687338268 then (spec_l12Copy.l0 k x0 (x3 ++ [(⟨bt1402.1, bt1402.2.1, bt1402.2.2.1, bt1402.2.2.2.1, bt1402.2.2.2.2⟩ : S75)]) (wrap64 (x4 + 1))) else (none))) else (none)) else (some x3)
def spec_l12Copy.f (k : Nat) (l0 : List (S75)) : Option ((List (S75))) := spec_l12Copy.l0 k l0 (([] : List (S75))) 0
theorem spec_l12Copy.mono_l : ∀ k, (∀ y0 y1 y2, LeO (spec_l12Copy.l0 k y0 y1 y2) (spec_l12Copy.l0 (k + 1) y0 y1 y2))
 | 0 => fun _ _ _ r h => by simp [spec_l12Copy.l0] at h
 | k + 1 => by
  have ih0 := spec_l12Copy.mono_l k
  intro y0 y1 y2
  unfold spec_l12Copy.l0
  repeat' first
  | (with_reducible exact ih0 _ _ _)
  | (with_reducible exact spec_l11Copy.mono _ _ _ _ _ _)
  | (with_reducible exact LeO.refl _)
  | (with_reducible exact LeO.none _)
  | (with_reducible refine LeO.ite ?_ ?_)
  | (with_reducible refine LeO.bind ?_ (fun _ => ?_))
  | exact ih0 _ _ _
  | exact spec_l11Copy.mono _ _ _ _ _ _
theorem spec_l12Copy.mono : ∀ a0 k, LeO (spec_l12Copy.f k a0) (spec_l12Copy.f (k + 1) a0) := by
 intro a0 k
 have ih0 := spec_l12Copy.mono_l k
 unfold spec_l12Copy.f
 repeat' first
   | (with_reducible exact ih0 _ _ _)
   | (with_reducible exact spec_l11Copy.mono _ _ _ _ _ _)
   | (with_reducible exact LeO.refl _)
   | (with_reducible exact LeO.none _)
   | (with_reducible refine LeO.ite ?_ ?_)
   | (with_reducible refine LeO.bind ?_ (fun _ => ?_))
   | exact ih0 _ _ _
   | exact spec_l11Copy.mono _ _ _ _ _ _
theorem spec_l12Copy.calls (k : Nat) (A0 : Option Addr) (c0 : Nat) (l0 : List (S75)) (r : List (S75)) (w : World) (hr0 : Kd.C k75 w A0 l0.length l0) (hc0 : l0.length ≤ c0) (h : spec_l12Copy.f k l0 = some r) :
  Calls Try.prog 127 #[.slice A0 l0.length c0] w fun e w' => ∃ v0_ : Value, e = .returned (v0_) ∧ Kd.S k75 75 w' w.heap.size (fun _ => True) v0_ r ∧ Below w.heap.size w w' := by
 have hu75 := Try.underlying75
 have HR0 := Aside0.mk hr0
 have HC0 := Aside0.mk hc0
 clear hr0 hc0
 have HB := Aside0.mk (Below.refl w.heap.size w)
 have H : (spec_l12Copy.l0 k l0 (([] : List (S75))) 0) = some r := h
 clear h
 obtain ⟨y1398, hy1398⟩ : ∃ y_ : List (S75), y_ = (([] : List (S75))) := ⟨_, rfl⟩
 replace H : (spec_l12Copy.l0 k l0 y1398 0) = some r := by first | (rw [hy1398]; with_reducible exact H) | (have H2_ := (Option.bind_some _ _).symm.trans H; rw [hy1398]; with_reducible exact H2_) | (have H2_ := (Option.bind_some _ _).symm.trans H; with_reducible exact H2_) | with_reducible exact H | (rw [hy1398]; exact H) | exact H
 have Ny1398 := Aside0.mk hy1398
 clear hy1398
 have H' := Aside0.mk H
 clear H
 go_enter Try.func127, Try.ntmps127
 go_wp2_with (first | ((with_reducible refine gate_dst (N := 6) rfl ?_); refine Kd.S_lit k75 _ 75 ?hg (N := 6) ?hd (xs := ([] : List (S75))) (inner := []) (ok := fun _ => True) (okp := fun _ => True) ?hr ?hp (fun _ hk => hk) trivial (Below.refl _ _) (Nat.le_refl _) (by simp) ?_; (case hd => rfl); (case hg => rfl); (case hr => first | (go_simp; done) | (go_simp; rfl)); (case hp => exact (Reps.none _ _)); intro v1399 w2 ho3 hb hg_ hnew_; clear hg_ hnew_; (first | rw [← Ny1398.out] at ho3 | (simp only [Int.reduceToNat] at ho3; rw [← Ny1398.out] at ho3)); have HO1400 := Aside0.mk (Kd.S_lower ho3 (below_size (hb_ HB.out))); have n1_ := Aside0.mk (below_step (hb_ HB.out) hb); clear HB; have HB := n1_; clear n1_; clear hb ho3))
 go_loopg [3, 4] k (fun kq v3 v4 w' => ∃ (x3_1 : List (S75)) (x4_1 : Int), v4 = .int .i64 x4_1 ∧ Aside0 (spec_l12Copy.l0 kq l0 x3_1 x4_1 = some r) ∧ Aside0 (kq ≤ k) ∧ Aside0 (Kd.S k75 75 w' w.heap.size (fun _ => True) v3 x3_1) ∧ Aside0 (Below w.heap.size w w'))
 case atStart => exact ⟨(y1398), (0), (by first | rfl | (simp; done) | (simp [*]; done)), H', ⟨Nat.le_refl _⟩, ⟨by (with_reducible repeat (first | apply Kd.S_alloc | apply Kd.S_drewN | apply Kd.S_drew)); exact HO1400.out⟩, ⟨by exact hb_ HB.out⟩⟩
 case round =>
  clear H'
  try clear c1
  try clear p2
  obtain ⟨x3_1, x4_1, rfl, HA, HK1, HO_3, HB⟩ := hrel
  cases gk with
  | zero => exact absurd HA.out (by simp [spec_l12Copy.l0])
  | succ k1 =>
   have H := HA.out
   clear HA
   simp only [spec_l12Copy.l0] at H
   by_cases c4 : x4_1 < (l0.length : Int)
   ·
    rw [if_pos c4] at H
    have c4b0 := decide_eq_true c4
    clear c4
    by_cases c5 : 0 ≤ x4_1
    ·
     rw [if_pos c5] at H
     have c5b0 := decide_eq_true c5
     clear c5
     replace H := Option.bind_eq_some_iff.mp H
     obtain ⟨⟨t1402, t1403, t1406, t1407, t1408⟩, A60, H⟩ := H
     have A6 := Aside0.mk A60
     clear A60
     by_cases c7 : x3_1.length < 1954687338268
     ·
      rw [if_pos c7] at H
      have LMc7 := Aside0.mk c7
      clear c7
      obtain ⟨y1412, hy1412⟩ : ∃ y_ : List (S75), y_ = (x3_1 ++ [(⟨t1402, t1403, t1406, t1407, t1408⟩ : S75)]) := ⟨_, rfl⟩
      replace H : (spec_l12Copy.l0 k1 l0 y1412 (wrap64 (x4_1 + 1))) = some r := by first | (rw [hy1412]; with_reducible exact H) | (have H2_ := (Option.bind_some _ _).symm.trans H; rw [hy1412]; with_reducible exact H2_) | (have H2_ := (Option.bind_some _ _).symm.trans H; with_reducible exact H2_) | with_reducible exact H | (rw [hy1412]; exact H) | exact H
      have Ny1412 := Aside0.mk hy1412
      clear hy1412
      have H' := Aside0.mk H
      clear H
      have p1401 : 0 ≤ (x4_1 : Int) := of_decide_eq_true (by with_reducible assumption)
      have q1401 : x4_1 < (l0.length : Int) := of_decide_eq_true (by with_reducible assumption)
      obtain ⟨ad1401, A1401_1, c1401_1, A1401_4, c1401_4, e1401, hx1401_0, hx1401_1, hx1401_2, hx1401_3, hx1401_4, hl1401_1, hi1401_1, hl1401_4, hi1401_4⟩ := at_T75 HR0.out x4_1 p1401 q1401
      cases e1401
      replace hx1401_0 := cl_ HB.out hx1401_0
      replace hx1401_1 := cl_ HB.out hx1401_1
      replace hx1401_2 := cl_ HB.out hx1401_2
      replace hx1401_3 := cl_ HB.out hx1401_3
      replace hx1401_4 := cl_ HB.out hx1401_4
      have HR1401_1 := Aside0.mk hi1401_1
      have HC1401_1 := Aside0.mk hl1401_1
      clear hi1401_1 hl1401_1
      have HR1401_4 := Aside0.mk hi1401_4
      have HC1401_4 := Aside0.mk hl1401_4
      clear hi1401_4 hl1401_4
      replace p1401 := eq_true p1401
      replace q1401 := eq_true q1401
      go_wp2_with (first | ((with_reducible refine gate_callee (f := 113) rfl ?_); refine goesL_ (some 17) rfl rfl Try.func113 (by kernel_rfl) rfl #[.agg #[.int .i64 ((rd_T75 l0 x4_1).f0), .slice A1401_1 ((rd_T75 l0 x4_1).f1).length c1401_1, .int .i64 ((rd_T75 l0 x4_1).f2), .int .i64 ((rd_T75 l0 x4_1).f3), .slice A1401_4 ((rd_T75 l0 x4_1).f4).length c1401_4]] rfl (by (try simp only [mp_]); first | done | rfl | (simp only [List.length_drop, List.length_take]; rfl)) ?_; (with_reducible refine (spec_l11Copy.calls k1 ((rd_T75 l0 x4_1).f0) _ _ ((rd_T75 l0 x4_1).f1) ((rd_T75 l0 x4_1).f2) ((rd_T75 l0 x4_1).f3) _ _ ((rd_T75 l0 x4_1).f4) t1402 t1403 t1406 t1407 t1408 _ ?side1 ?side2 ?side3 ?side4 A6.out).mono ?_); (case side1 => exact cp_ ((Kd.C_below HR1401_1.out HB.out))); (case side2 => exact HC1401_1.out); (case side3 => exact cp_ ((Kd.C_below HR1401_4.out HB.out))); (case side4 => exact HC1401_4.out); rintro e w8 ⟨v1404, v1409, rfl, ho0, ho1, hb⟩; refine ⟨_, rfl, ?_⟩; obtain ⟨gbz1404, hz1404⟩ := Kd.R_name ho0; replace HO_3 := Aside0.mk (Kd.S_below (Kd.S_ltz hz1404 (sp_ HO_3.out)) hb); have HO1405 := Aside0.mk (Kd.R_lower (Kd.R_gez hz1404 ho0) (below_size (hb_ HB.out))); have HO1410 := Aside0.mk (Kd.S_lower (Kd.S_gez hz1404 ho1) (below_size (hb_ HB.out))); replace HB := Aside0.mk (below_step (hb_ HB.out) hb); (try clear hb); (try clear hb2); (try clear hk); (try clear hi); (try clear ho0); (try clear ho1)) | ((with_reducible refine gate_dst (N := 5) rfl ?_); refine box_event ?hg (N := 5) ?hd (cs := #[.int .i64 0, .slice none 0 0, .int .i64 0, .int .i64 0, .slice none 0 0]) (t := 75) ?hr ?_; (case hd => rfl); (case hg => rfl); (case hr => first | (go_simp; done) | (go_simp; rfl)); intro gb1411 hg w9 hbox hb; replace HO_3 := Aside0.mk (Kd.S_below (Kd.S_elderB (sp_ HO_3.out) gb1411 (Nat.le_of_eq hg.symm)) hb); replace HO1405 := Aside0.mk (Kd.R_below (rp_ HO1405.out) hb); replace HO1410 := Aside0.mk (Kd.S_below (sp_ HO1410.out) hb); have BK1411 := Aside0.mk (hbox); have GW1411 := Aside0.mk ((by rw [hg]; exact (below_size (hb_ HB.out)) : w.heap.size ≤ gb1411)); replace HB := Aside0.mk (below_step (hb_ HB.out) hb); have GE1411 := GW1411; clear hb hbox hg; obtain ⟨hcz10_0, hcz10_1, hcz10_2, hcz10_3, hcz10_4, hfz10_0, hfz10_1, hfz10_2, hfz10_3, hfz10_4⟩ := bc5_ BK1411.out; obtain ⟨Ao11, co11, eo11⟩ := Kd.R_slice HO1405.out; subst eo11; obtain ⟨Ao12, co12, eo12⟩ := Kd.S_slice HO1410.out; subst eo12) | ((with_reducible refine gate_store (t := 75) (p := 5) rfl ?_); refine store_event (t := 75) (p := 5) (v := ?vo_w13) (w1 := (((((w9.setCell ⟨gb1411, 0, none⟩ (.int .i64 t1402)).setCell ⟨gb1411, 1, none⟩ (.slice Ao11 t1403.length co11)).setCell ⟨gb1411, 2, none⟩ (.int .i64 t1406)).setCell ⟨gb1411, 3, none⟩ (.int .i64 t1407)).setCell ⟨gb1411, 4, none⟩ (.slice Ao12 t1408.length co12))) ?hg ?ho ?hn ?hr ?_; (case ho => rfl); (case hg => rfl); (case hn => rfl); (case hr => first | (go_simp; done) | (go_simp; rfl)); intro w13 hw; replace HO_3 : Aside0 (Kd.S k75 75 w13 w.heap.size (fun k_ => k_ < gbz1404 ∧ k_ ≠ gb1411) u3 x3_1) := ⟨(by rw [hw]; exact (by (with_reducible repeat (first | apply Kd.S_alloc | apply Kd.S_drewN | apply Kd.S_drew)); exact Kd.S_mono (Kd.S_far (p := ⟨gb1411, 4, none⟩) (Kd.S_far (p := ⟨gb1411, 3, none⟩) (Kd.S_far (p := ⟨gb1411, 2, none⟩) (Kd.S_far (p := ⟨gb1411, 1, none⟩) (Kd.S_far (p := ⟨gb1411, 0, none⟩) (Kd.S_mono HO_3.out (fun k_ hk => (⟨hk, hk.2⟩ : _ ∧ k_ ≠ gb1411))) (fun _ hk => hk.2) (.int .i64 t1402)) (fun _ hk => hk.2) (.slice Ao11 t1403.length co11)) (fun _ hk => hk.2) (.int .i64 t1406)) (fun _ hk => hk.2) (.int .i64 t1407)) (fun _ hk => hk.2) (.slice Ao12 t1408.length co12)) (fun _ hk => ⟨hk.1.1.2, hk.1.2⟩)))⟩; replace HO1405 : Aside0 (Kd.R k164 164 w13 w.heap.size (fun k_ => gbz1404 ≤ k_) (.slice Ao11 t1403.length co11) t1403) := ⟨(by rw [hw]; exact (by (with_reducible repeat (first | apply Kd.R_alloc | apply Kd.R_drewN | apply Kd.R_drew)); exact Kd.R_mono (Kd.R_far (p := ⟨gb1411, 4, none⟩) (Kd.R_far (p := ⟨gb1411, 3, none⟩) (Kd.R_far (p := ⟨gb1411, 2, none⟩) (Kd.R_far (p := ⟨gb1411, 1, none⟩) (Kd.R_far (p := ⟨gb1411, 0, none⟩) (Kd.R_types HO1405.out BK1411.out (by decide)) (fun _ hk => hk.2) (.int .i64 t1402)) (fun _ hk => hk.2) (.slice Ao11 t1403.length co11)) (fun _ hk => hk.2) (.int .i64 t1406)) (fun _ hk => hk.2) (.int .i64 t1407)) (fun _ hk => hk.2) (.slice Ao12 t1408.length co12)) (fun _ hk => hk.1.2)))⟩; replace HO1410 : Aside0 (Kd.S k44 44 w13 w.heap.size (fun k_ => some k_ ≠ (.slice Ao11 t1403.length co11 : Value).ownBlock ∧ gbz1404 ≤ k_) (.slice Ao12 t1408.length co12) t1408) := ⟨(by rw [hw]; exact (by (with_reducible repeat (first | apply Kd.S_alloc | apply Kd.S_drewN | apply Kd.S_drew)); exact Kd.S_mono (Kd.S_far (p := ⟨gb1411, 4, none⟩) (Kd.S_far (p := ⟨gb1411, 3, none⟩) (Kd.S_far (p := ⟨gb1411, 2, none⟩) (Kd.S_far (p := ⟨gb1411, 1, none⟩) (Kd.S_far (p := ⟨gb1411, 0, none⟩) (Kd.S_types HO1410.out BK1411.out (by decide)) (fun _ hk => hk.2) (.int .i64 t1402)) (fun _ hk => hk.2) (.slice Ao11 t1403.length co11)) (fun _ hk => hk.2) (.int .i64 t1406)) (fun _ hk => hk.2) (.int .i64 t1407)) (fun _ hk => hk.2) (.slice Ao12 t1408.length co12)) (fun _ hk => ⟨hk.1.1, hk.1.2⟩)))⟩; replace BK1411 : Aside0 (w13.heap[gb1411]? = some (.cells #[.int .i64 t1402, .slice Ao11 t1403.length co11, .int .i64 t1406, .int .i64 t1407, .slice Ao12 t1408.length co12] 75 (0, 0))) := ⟨(by rw [hw]; exact (by (with_reducible repeat (first | refine kn_ ?_ _ | refine kd_ ?_ | refine ka_ ?_ _)); refine blk_put (cs := #[.int .i64 t1402, .slice Ao11 t1403.length co11, .int .i64 t1406, .int .i64 t1407, .slice none 0 0]) ?_ 4 _ rfl; (with_reducible repeat (first | refine kn_ ?_ _ | refine kd_ ?_ | refine ka_ ?_ _)); refine blk_put (cs := #[.int .i64 t1402, .slice Ao11 t1403.length co11, .int .i64 t1406, .int .i64 0, .slice none 0 0]) ?_ 3 _ rfl; (with_reducible repeat (first | refine kn_ ?_ _ | refine kd_ ?_ | refine ka_ ?_ _)); refine blk_put (cs := #[.int .i64 t1402, .slice Ao11 t1403.length co11, .int .i64 0, .int .i64 0, .slice none 0 0]) ?_ 2 _ rfl; (with_reducible repeat (first | refine kn_ ?_ _ | refine kd_ ?_ | refine ka_ ?_ _)); refine blk_put (cs := #[.int .i64 t1402, .slice none 0 0, .int .i64 0, .int .i64 0, .slice none 0 0]) ?_ 1 _ rfl; (with_reducible repeat (first | refine kn_ ?_ _ | refine kd_ ?_ | refine ka_ ?_ _)); refine blk_put (cs := #[.int .i64 0, .slice none 0 0, .int .i64 0, .int .i64 0, .slice none 0 0]) ?_ 0 _ rfl; (with_reducible repeat (first | refine kn_ ?_ _ | refine kd_ ?_ | refine ka_ ?_ _)); exact BK1411.out))⟩; replace HB : Aside0 (Below w.heap.size w w13) := ⟨(by rw [hw]; exact (by repeat (first | (with_reducible first | exact HB.out | apply ba_ | apply bn_ | apply bd_ | apply bs_ GE1411) | exact HB.out)))⟩; clear hw; obtain ⟨hcz14_0, hcz14_1, hcz14_2, hcz14_3, hcz14_4, hfz14_0, hfz14_1, hfz14_2, hfz14_3, hfz14_4⟩ := bc5_ BK1411.out; obtain ⟨PXP16, hPXP16, hPlP16⟩ := Kd.S_fp (Kd.S_types (Kd.S_apart' (HO1410.out) (Kd.S_typed HO_3.out) (by decide)) BK1411.out (by decide))) | ((with_reducible refine gate_builtin (b := .append) (xs := #[.tmp 18, .tmp 20]) rfl ?_); at_builtin; refine Kd.S_append k75 (w0 := w) w.heap.size rfl (.tmp 18) (.tmp 20) 87 75 (.agg #[(.int .i64 0), (.slice none 0 0), (.int .i64 0), (.int .i64 0), (.slice none 0 0)]) 72 rfl Try.underlying87 info75 rfl (by decide) (by omega) u3 x3_1 (⟨t1402, t1403, t1406, t1407, t1408⟩ : S75) [.int .i64 t1402, .slice Ao11 t1403.length co11, .int .i64 t1406, .int .i64 t1407, .slice Ao12 t1408.length co12] (fun k_ => k_ ≠ gb1411) (fun k_ => some k_ = (.slice Ao11 t1403.length co11 : Value).ownBlock ∨ PXP16 k_) rfl rfl ?aP (fun k_ hk_ => hk_.elim (fun h_ => ((Kd.R_mono (ok' := fun k_ => ((fun k_ => k_ ≠ gb1411)) k_ ∧ some k_ ≠ (u3 : Value).ownBlock) (Kd.R_types (Kd.R_apart' (HO1405.out) (Kd.S_typed HO_3.out) (by decide)) BK1411.out (by decide)) (fun k_ hk => ⟨hk.2, hk.1.2⟩))).1 k_ h_.symm) (fun h_ => ⟨(hPlP16 k_ h_).1.2, (hPlP16 k_ h_).1.1.2⟩)) ?aF ?aO ?aB ?aS ?aL ?_; (case aP => exact k75_mkM _ _ _ (⟨t1402, t1403, t1406, t1407, t1408⟩ : S75) (P := fun k_ => some k_ = (.slice Ao11 t1403.length co11 : Value).ownBlock) (Kd.R_mono (Kd.R_tight rfl (Kd.R_mono (ok' := fun k_ => ((fun k_ => k_ ≠ gb1411)) k_ ∧ some k_ ≠ (u3 : Value).ownBlock) (Kd.R_types (Kd.R_apart' (HO1405.out) (Kd.S_typed HO_3.out) (by decide)) BK1411.out (by decide)) (fun k_ hk => ⟨hk.2, hk.1.2⟩))) (fun _ h_ => ⟨Or.inl h_, h_⟩)) (Kd.S_mono hPXP16 (fun k_ h_ => ⟨Or.inr (h_), fun e_ => (hPlP16 k_ h_).1.1.1.1 e_⟩))); (case aB => exact (by repeat (first | (with_reducible first | exact HB.out | apply ba_ | apply bn_ | apply bd_ | apply bs_ GE1411) | exact HB.out))); (case aF => exact (fun k_ hk => Kd.freshB (g := gb1411) (o := .cells #[.int .i64 t1402, .slice Ao11 t1403.length co11, .int .i64 t1406, .int .i64 t1407, .slice Ao12 t1408.length co12] 75 (0, 0)) (pb_ BK1411.out) k_ hk)); (case aO => exact (by (with_reducible repeat (first | apply Kd.S_alloc | apply Kd.S_drewN | apply Kd.S_drew)); exact Kd.S_mono HO_3.out (fun k_ hk => ⟨hk.2, fun e_ => e_.elim (fun h_ => (fun ez_ => Nat.lt_irrefl _ (Nat.lt_of_lt_of_le hk.1 (HO1405.out.1 _ ez_.symm))) h_) (fun h_ => (fun ez_ => Nat.lt_irrefl _ (Nat.lt_of_lt_of_le hk.1 (hPlP16 _ ez_).1.1.1.2)) h_)⟩))); (case aS => exact (below_size (by repeat (first | (with_reducible first | exact HB.out | apply ba_ | apply bn_ | apply bd_ | apply bs_ GE1411) | exact HB.out)))); (case aL => have := LMc7.out; omega); intro v1413 w15 ho hb hg hat; rw [← Ny1412.out] at ho; replace BK1411 := Aside0.mk (blk_grown (g := gb1411) (o := .cells #[.int .i64 t1402, .slice Ao11 t1403.length co11, .int .i64 t1406, .int .i64 t1407, .slice Ao12 t1408.length co12] 75 (0, 0)) (pb_ BK1411.out) hg (Kd.S_away HO_3.out (fun _ hk => hk.2))); replace HB := Aside0.mk (hb); have HO1414 := Aside0.mk (ho); clear HO_3 HO1405 HO1410; clear ho hb hg hat))
      go_roundg k1
      case measure => have := HK1.out; omega
      case rel => exact ⟨(y1412), (wrap64 (x4_1 + 1)), (by first | rfl | (simp; done) | (simp [*]; done)), H', ⟨by have := HK1.out; omega⟩, ⟨by (with_reducible repeat (first | apply Kd.S_alloc | apply Kd.S_drewN | apply Kd.S_drew)); exact Kd.S_mono HO1414.out (fun _ hk => trivial)⟩, ⟨by repeat (first | (with_reducible first | exact HB.out | apply ba_ | apply bn_ | apply bd_ | apply bs_ GE1411) | exact HB.out)⟩⟩
     rw [if_neg c7] at H
     exact absurd H (by simp)
    rw [if_neg c5] at H
    exact absurd H (by simp)
   rw [if_neg c4] at H
   have c4b0 : decide (x4_1 < (l0.length : Int)) = false := decide_eq_false c4
   clear c4
   obtain rfl := Option.some.inj H
   go_wp2
   go_ret
   exact ⟨_, by first | rfl | (simp [errW_none, errW_some] <;> rfl) | (simp [*, errW_none, errW_some] <;> rfl), by (with_reducible repeat (first | apply Kd.S_alloc | apply Kd.S_drewN | apply Kd.S_drew)); exact HO_3.out, by exact hb_ HB.out⟩
def spec_GroupOf.l0 : Nat → List (S75) → List (S164) → Int → Option (Int)
 | 0, _, _, _ => none
 | k + 1, x0, x1, x5 => if x5 < (x0.length : Int) then (if 0 ≤ x5 then ((spec_SameSet.f k ((rd_T75 x0 x5).f1) x1).bind fun t1416 => (if t1416 = true then (some x5) else (spec_GroupOf.l0 k x0 x1 (wrap64 (x5 + 1))))) else (none)) else (some (-1))
def spec_GroupOf.f (k : Nat) (l0 : List (S75)) (l1 : List (S164)) : Option (Int) := spec_GroupOf.l0 k l0 l1 0
theorem spec_GroupOf.mono_l : ∀ k, (∀ y0 y1 y2, LeO (spec_GroupOf.l0 k y0 y1 y2) (spec_GroupOf.l0 (k + 1) y0 y1 y2))
 | 0 => fun _ _ _ r h => by simp [spec_GroupOf.l0] at h
 | k + 1 => by
  have ih0 := spec_GroupOf.mono_l k
  intro y0 y1 y2
  unfold spec_GroupOf.l0
  repeat' first
  | (with_reducible exact ih0 _ _ _)
  | (with_reducible exact spec_SameSet.mono _ _ _)
  | (with_reducible exact LeO.refl _)
  | (with_reducible exact LeO.none _)
  | (with_reducible refine LeO.ite ?_ ?_)
  | (with_reducible refine LeO.bind ?_ (fun _ => ?_))
  | exact ih0 _ _ _
  | exact spec_SameSet.mono _ _ _
theorem spec_GroupOf.mono : ∀ a0 a1 k, LeO (spec_GroupOf.f k a0 a1) (spec_GroupOf.f (k + 1) a0 a1) := by
 intro a0 a1 k
 have ih0 := spec_GroupOf.mono_l k
 unfold spec_GroupOf.f
 repeat' first
   | (with_reducible exact ih0 _ _ _)
   | (with_reducible exact spec_SameSet.mono _ _ _)
   | (with_reducible exact LeO.refl _)
   | (with_reducible exact LeO.none _)
   | (with_reducible refine LeO.ite ?_ ?_)
   | (with_reducible refine LeO.bind ?_ (fun _ => ?_))
   | exact ih0 _ _ _
   | exact spec_SameSet.mono _ _ _
theorem spec_GroupOf.calls (k : Nat) (A0 : Option Addr) (c0 : Nat) (l0 : List (S75)) (A1 : Option Addr) (c1 : Nat) (l1 : List (S164)) (r : Int) (w : World) (hr0 : Kd.C k75 w A0 l0.length l0) (hc0 : l0.length ≤ c0) (hr1 : Kd.C k164 w A1 l1.length l1) (hc1 : l1.length ≤ c1) (h : spec_GroupOf.f k l0 l1 = some r) :
  Calls Try.prog 128 #[.slice A0 l0.length c0, .slice A1 l1.length c1] w fun e w' => e = .returned (.int .i64 r) ∧ Drawn0 w w' := by
 have HR0 := Aside0.mk hr0
 have HC0 := Aside0.mk hc0
 clear hr0 hc0
 have HR1 := Aside0.mk hr1
 have HC1 := Aside0.mk hc1
 clear hr1 hc1
 have H : (spec_GroupOf.l0 k l0 l1 0) = some r := h
 clear h
 have H' := Aside0.mk H
 clear H
 go_enter Try.func128, Try.ntmps128
 go_wp2
 go_loopg [5] k (fun kq v5 w' => ∃ (x5_1 : Int), v5 = .int .i64 x5_1 ∧ Aside0 (spec_GroupOf.l0 kq l0 l1 x5_1 = some r) ∧ Aside0 (kq ≤ k) ∧ Drawn0 w w')
 case atStart => exact ⟨(0), (by first | rfl | (simp; done) | (simp [*]; done)), H', ⟨Nat.le_refl _⟩, by repeat (first | exact Drawn0.refl _ | apply Drawn0.step)⟩
 case round =>
  clear H'
  try clear c1
  try clear p2
  obtain ⟨x5_1, rfl, HA, HK1, ⟨m1, rfl⟩⟩ := hrel
  cases gk with
  | zero => exact absurd HA.out (by simp [spec_GroupOf.l0])
  | succ k1 =>
   have H := HA.out
   clear HA
   simp only [spec_GroupOf.l0] at H
   by_cases c3 : x5_1 < (l0.length : Int)
   ·
    rw [if_pos c3] at H
    have c3b0 := decide_eq_true c3
    clear c3
    by_cases c4 : 0 ≤ x5_1
    ·
     rw [if_pos c4] at H
     have c4b0 := decide_eq_true c4
     clear c4
     replace H := Option.bind_eq_some_iff.mp H
     obtain ⟨t1416, A50, H⟩ := H
     have A5 := Aside0.mk A50
     clear A50
     by_cases c6 : t1416 = true
     ·
      subst c6
      rw [if_pos rfl] at H
      obtain rfl := Option.some.inj H
      have p1415 : 0 ≤ (x5_1 : Int) := of_decide_eq_true (by with_reducible assumption)
      have q1415 : x5_1 < (l0.length : Int) := of_decide_eq_true (by with_reducible assumption)
      obtain ⟨ad1415, A1415_1, c1415_1, A1415_4, c1415_4, e1415, hx1415_0, hx1415_1, hx1415_2, hx1415_3, hx1415_4, hl1415_1, hi1415_1, hl1415_4, hi1415_4⟩ := at_T75 HR0.out x5_1 p1415 q1415
      cases e1415
      have HR1415_1 := Aside0.mk hi1415_1
      have HC1415_1 := Aside0.mk hl1415_1
      clear hi1415_1 hl1415_1
      have HR1415_4 := Aside0.mk hi1415_4
      have HC1415_4 := Aside0.mk hl1415_4
      clear hi1415_4 hl1415_4
      replace p1415 := eq_true p1415
      replace q1415 := eq_true q1415
      go_wp2_with (first | ((with_reducible refine gate_callee (f := 106) rfl ?_); refine goesL_ (some 18) rfl rfl Try.func106 (by kernel_rfl) rfl #[.slice A1415_1 ((rd_T75 l0 x5_1).f1).length c1415_1, .slice A1 l1.length c1] rfl (by (try simp only [mp_]); first | done | rfl | (simp only [List.length_drop, List.length_take]; rfl)) ?_; (with_reducible refine (spec_SameSet.calls k1 _ _ ((rd_T75 l0 x5_1).f1) _ _ l1 true _ ?side1 ?side2 ?side3 ?side4 A5.out).mono ?_); (case side1 => exact cp_ (HR1415_1.out)); (case side2 => exact HC1415_1.out); (case side3 => exact cp_ (HR1.out)); (case side4 => exact HC1.out); rintro e w' ⟨rfl, ⟨nd, rfl⟩⟩; refine ⟨_, rfl, ?_⟩))
      go_ret
      exact ⟨by first | rfl | (simp; done) | (simp [*]; done), by repeat (first | exact Drawn0.refl _ | apply Drawn0.step)⟩
     replace c6 := Bool.eq_false_iff.mpr c6
     subst c6
     rw [if_neg (show ¬ (false = true) by decide)] at H
     have H' := Aside0.mk H
     clear H
     have p1415 : 0 ≤ (x5_1 : Int) := of_decide_eq_true (by with_reducible assumption)
     have q1415 : x5_1 < (l0.length : Int) := of_decide_eq_true (by with_reducible assumption)
     obtain ⟨ad1415, A1415_1, c1415_1, A1415_4, c1415_4, e1415, hx1415_0, hx1415_1, hx1415_2, hx1415_3, hx1415_4, hl1415_1, hi1415_1, hl1415_4, hi1415_4⟩ := at_T75 HR0.out x5_1 p1415 q1415
     cases e1415
     have HR1415_1 := Aside0.mk hi1415_1
     have HC1415_1 := Aside0.mk hl1415_1
     clear hi1415_1 hl1415_1
     have HR1415_4 := Aside0.mk hi1415_4
     have HC1415_4 := Aside0.mk hl1415_4
     clear hi1415_4 hl1415_4
     replace p1415 := eq_true p1415
     replace q1415 := eq_true q1415
     go_wp2_with (first | ((with_reducible refine gate_callee (f := 106) rfl ?_); refine goesL_ (some 18) rfl rfl Try.func106 (by kernel_rfl) rfl #[.slice A1415_1 ((rd_T75 l0 x5_1).f1).length c1415_1, .slice A1 l1.length c1] rfl (by (try simp only [mp_]); first | done | rfl | (simp only [List.length_drop, List.length_take]; rfl)) ?_; (with_reducible refine (spec_SameSet.calls k1 _ _ ((rd_T75 l0 x5_1).f1) _ _ l1 false _ ?side1 ?side2 ?side3 ?side4 A5.out).mono ?_); (case side1 => exact cp_ (HR1415_1.out)); (case side2 => exact HC1415_1.out); (case side3 => exact cp_ (HR1.out)); (case side4 => exact HC1.out); rintro e w' ⟨rfl, ⟨nd, rfl⟩⟩; refine ⟨_, rfl, ?_⟩))
     go_roundg k1
     case measure => have := HK1.out; omega
     case rel => exact ⟨(wrap64 (x5_1 + 1)), (by first | rfl | (simp; done) | (simp [*]; done)), H', ⟨by have := HK1.out; omega⟩, by repeat (first | exact Drawn0.refl _ | apply Drawn0.step)⟩
    rw [if_neg c4] at H
    exact absurd H (by simp)
   rw [if_neg c3] at H
   have c3b0 : decide (x5_1 < (l0.length : Int)) = false := decide_eq_false c3
   clear c3
   obtain rfl := Option.some.inj H
   go_wp2
   go_ret
   exact ⟨by first | rfl | (simp; done) | (simp [*]; done), by repeat (first | exact Drawn0.refl _ | apply Drawn0.step)⟩
end Go.Proofs.Ytfholjcelnkleaa.Print
end
