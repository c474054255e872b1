import Derived.Test.YtfholjcelnkleaaMFnExactTell1
import Derived.Test.YtfholjcelnkleaaMFnExactTell2
section
namespace Go.Proofs.Ytfholjcelnkleaa.Print
open Go.RowKit Go.Proofs.YtfholjcelnkleaaV.PrintWords Go.Proofs.YtfholjcelnkleaaV.PrintLast Go.Proofs.YtfholjcelnkleaaV.PrintMore
attribute [local go_sem] max2_int min2_int max_two min_two max_three min_three max_four min_four
set_option linter.unusedVariables false
set_option linter.unusedSimpArgs false
set_option maxHeartbeats 8000000
set_option maxRecDepth 100000
def laws_FnExactTell.f (k : Nat) (l0_0 : List (S34)) (a0_1 : Bool) (l1_0 : List (S163)) (a1_1 : Int) (a1_2 : Int) (a1_3 : ByteArray) : Option (Bool) := (laws_szSub.f k l0_0 a0_1 1048576).bind fun t338 => (if t338 < 0 then (some true) else ((laws_szAlarm.f k l1_0 a1_1 a1_2 a1_3 t338).bind fun t339 => (if t339 < 0 then (some true) else ((laws_toSub.f k l0_0 a0_1).bind fun bt340 => ((laws_toAlarm.f k l1_0 a1_1 a1_2 a1_3).bind fun bt344 => ((spec_Tell.f k bt340.1 bt340.2 bt344.1 bt344.2.1 bt344.2.2.1 bt344.2.2.2).bind fun bt350 => ((laws_toSub.f k l0_0 a0_1).bind fun bt355 => ((laws_toAlarm.f k l1_0 a1_1 a1_2 a1_3).bind fun bt360 => ((impl_Tell.f k bt355.1 bt355.2 bt360.1 bt360.2.1 bt360.2.2.1 bt360.2.2.2).bind fun bt367 => ((laws_eqSub.f k bt367.1 bt367.2 bt350.1 bt350.2).bind fun t372 => (if t372 = true then ((laws_toSub.f k l0_0 a0_1).bind fun bt373 => ((laws_eqSub.f k bt355.1 bt355.2 bt373.1 bt373.2).bind fun t377 => (if t377 = true then ((laws_toAlarm.f k l1_0 a1_1 a1_2 a1_3).bind fun bt378 => ((laws_eqAlarm.f k bt360.1 bt360.2.1 bt360.2.2.1 bt360.2.2.2 bt378.1 bt378.2.1 bt378.2.2.1 bt378.2.2.2).bind fun t384 => (if t384 = true then ((laws_markSub.f k bt355.1 bt355.2 1).bind fun bt385 => ((laws_markAlarm.f k bt360.1 bt360.2.1 bt360.2.2.1 bt360.2.2.2 bt385.1).bind fun bt387 => (if bt387.1 < 0 then (none) else ((laws_eqSub.f k bt367.1 bt367.2 bt350.1 bt350.2).bind fun t389 => (if t389 = true then ((laws_markSub.f k bt367.1 bt367.2 1).bind fun bt390 => ((laws_heldSub.f k bt390.2 bt367.2 1).bind fun t392 => (if t392 < 0 then (none) else (if t392 = bt390.1 then ((laws_toSub.f k l0_0 a0_1).bind fun bt393 => ((laws_toAlarm.f k l1_0 a1_1 a1_2 a1_3).bind fun bt397 => ((impl_Tell.f k bt393.1 bt393.2 bt397.1 bt397.2.1 bt397.2.2.1 bt397.2.2.2).bind fun bt403 => ((laws_eqSub.f k bt403.1 bt403.2 bt350.1 bt350.2).bind fun t408 => (if t408 = true then ((laws_heldSub.f k bt390.2 bt367.2 1).bind fun t409 => (if t409 < 0 then (none) else (if t409 = bt390.1 then (some true) else (none)))) else (none)))))) else (none))))) else (none)))))) else (none)))) else (none)))) else (none))))))))))))
theorem laws_FnExactTell.mono : ∀ a0 a1 a2 a3 a4 a5 k, LeO (laws_FnExactTell.f k a0 a1 a2 a3 a4 a5) (laws_FnExactTell.f (k + 1) a0 a1 a2 a3 a4 a5) := by
 intro a0 a1 a2 a3 a4 a5 k
 unfold laws_FnExactTell.f
 repeat' first
   | (with_reducible exact impl_Tell.mono _ _ _ _ _ _ _)
   | (with_reducible exact laws_eqAlarm.mono _ _ _ _ _ _ _ _ _)
   | (with_reducible exact laws_eqSub.mono _ _ _ _ _)
   | (with_reducible exact laws_heldSub.mono _ _ _ _)
   | (with_reducible exact laws_markAlarm.mono _ _ _ _ _ _)
   | (with_reducible exact laws_markSub.mono _ _ _ _)
   | (with_reducible exact laws_szAlarm.mono _ _ _ _ _ _)
   | (with_reducible exact laws_szSub.mono _ _ _ _)
   | (with_reducible exact laws_toAlarm.mono _ _ _ _ _)
   | (with_reducible exact laws_toSub.mono _ _ _)
   | (with_reducible exact spec_Tell.mono _ _ _ _ _ _ _)
   | (with_reducible exact LeO.refl _)
   | (with_reducible exact LeO.none _)
   | (with_reducible refine LeO.ite ?_ ?_)
   | (with_reducible refine LeO.bind ?_ (fun _ => ?_))
   | exact impl_Tell.mono _ _ _ _ _ _ _
   | exact laws_eqAlarm.mono _ _ _ _ _ _ _ _ _
   | exact laws_eqSub.mono _ _ _ _ _
   | exact laws_heldSub.mono _ _ _ _
   | exact laws_markAlarm.mono _ _ _ _ _ _
   | exact laws_markSub.mono _ _ _ _
   | exact laws_szAlarm.mono _ _ _ _ _ _
   | exact laws_szSub.mono _ _ _ _
   | exact laws_toAlarm.mono _ _ _ _ _
   | exact laws_toSub.mono _ _ _
   | exact spec_Tell.mono _ _ _ _ _ _ _
theorem laws_FnExactTell.calls (k : Nat) (A0_0 : Option Addr) (c0_0 : Nat) (l0_0 : List (S34)) (a0_1 : Bool) (A1_0 : Option Addr) (c1_0 : Nat) (l1_0 : List (S163)) (a1_1 : Int) (a1_2 : Int) (a1_3 : ByteArray) (r : Bool) (w : World) (hr0_0 : Kd.C k34 w A0_0 l0_0.length l0_0) (hc0_0 : l0_0.length ≤ c0_0) (hr1_0 : Kd.C k163 w A1_0 l1_0.length l1_0) (hc1_0 : l1_0.length ≤ c1_0) (h : laws_FnExactTell.f k l0_0 a0_1 l1_0 a1_1 a1_2 a1_3 = some r) :
  Calls Try.prog 4 #[.agg #[.slice A0_0 l0_0.length c0_0, .bool a0_1], .agg #[.slice A1_0 l1_0.length c1_0, .int .i64 a1_1, .int .i64 a1_2, .string a1_3]] w fun e w' => e = .returned (.bool r) ∧ Below w.heap.size w w' := by
 have hu31 := Try.underlying31
 have hu34 := Try.underlying34
 have hu39 := Try.underlying39
 have hu44 := Try.underlying44
 have HR0_0 := Aside0.mk hr0_0
 have HC0_0 := Aside0.mk hc0_0
 clear hr0_0 hc0_0
 have HR1_0 := Aside0.mk hr1_0
 have HC1_0 := Aside0.mk hc1_0
 clear hr1_0 hc1_0
 have HB := Aside0.mk (Below.refl w.heap.size w)
 have H : ((laws_szSub.f k l0_0 a0_1 1048576).bind fun t338 => (if t338 < 0 then (some true) else ((laws_szAlarm.f k l1_0 a1_1 a1_2 a1_3 t338).bind fun t339 => (if t339 < 0 then (some true) else ((laws_toSub.f k l0_0 a0_1).bind fun bt340 => ((laws_toAlarm.f k l1_0 a1_1 a1_2 a1_3).bind fun bt344 => ((spec_Tell.f k bt340.1 bt340.2 bt344.1 bt344.2.1 bt344.2.2.1 bt344.2.2.2).bind fun bt350 => ((laws_toSub.f k l0_0 a0_1).bind fun bt355 => ((laws_toAlarm.f k l1_0 a1_1 a1_2 a1_3).bind fun bt360 => ((impl_Tell.f k bt355.1 bt355.2 bt360.1 bt360.2.1 bt360.2.2.1 bt360.2.2.2).bind fun bt367 => ((laws_eqSub.f k bt367.1 bt367.2 bt350.1 bt350.2).bind fun t372 => (if t372 = true then ((laws_toSub.f k l0_0 a0_1).bind fun bt373 => ((laws_eqSub.f k bt355.1 bt355.2 bt373.1 bt373.2).bind fun t377 => (if t377 = true then ((laws_toAlarm.f k l1_0 a1_1 a1_2 a1_3).bind fun bt378 => ((laws_eqAlarm.f k bt360.1 bt360.2.1 bt360.2.2.1 bt360.2.2.2 bt378.1 bt378.2.1 bt378.2.2.1 bt378.2.2.2).bind fun t384 => (if t384 = true then ((laws_markSub.f k bt355.1 bt355.2 1).bind fun bt385 => ((laws_markAlarm.f k bt360.1 bt360.2.1 bt360.2.2.1 bt360.2.2.2 bt385.1).bind fun bt387 => (if bt387.1 < 0 then (none) else ((laws_eqSub.f k bt367.1 bt367.2 bt350.1 bt350.2).bind fun t389 => (if t389 = true then ((laws_markSub.f k bt367.1 bt367.2 1).bind fun bt390 => ((laws_heldSub.f k bt390.2 bt367.2 1).bind fun t392 => (if t392 < 0 then (none) else (if t392 = bt390.1 then ((laws_toSub.f k l0_0 a0_1).bind fun bt393 => ((laws_toAlarm.f k l1_0 a1_1 a1_2 a1_3).bind fun bt397 => ((impl_Tell.f k bt393.1 bt393.2 bt397.1 bt397.2.1 bt397.2.2.1 bt397.2.2.2).bind fun bt403 => ((laws_eqSub.f k bt403.1 bt403.2 bt350.1 bt350.2).bind fun t408 => (if t408 = true then ((laws_heldSub.f k bt390.2 bt367.2 1).bind fun t409 => (if t409 < 0 then (none) else (if t409 = bt390.1 then (some true) else (none)))) else (none)))))) else (none))))) else (none)))))) else (none)))) else (none)))) else (none))))))))))))) = some r := h
 clear h
 replace H := Option.bind_eq_some_iff.mp H
 obtain ⟨t338, A30, H⟩ := H
 have A3 := Aside0.mk A30
 clear A30
 by_cases c4 : t338 < 0
 ·
  rw [if_pos c4] at H
  have c4b0 := decide_eq_true c4
  clear c4
  obtain rfl := Option.some.inj H
  go_enter Try.func4, Try.ntmps4
  go_wp2_with (first | ((with_reducible refine gate_dst (N := 2) rfl ?_); refine box_event ?hg (N := 2) ?hd (cs := #[.slice A0_0 l0_0.length c0_0, .bool a0_1]) (t := 31) ?hr ?_; (case hd => rfl); (case hg => rfl); (case hr => first | (go_simp; done) | (go_simp; rfl)); intro gb336 hg w5 hbox hb; have n0_ := Aside0.mk (below_step (by repeat (first | (with_reducible first | exact HB.out | apply ba_ | apply bn_ | apply bd_) | exact HB.out)) hb); have BK336 := Aside0.mk (hbox); have GW336 := Aside0.mk ((by rw [hg]; exact (below_size (by repeat (first | (with_reducible first | exact HB.out | apply ba_ | apply bn_ | apply bd_) | exact HB.out))) : w.heap.size ≤ gb336)); have GE336 := GW336; clear HB; have HB := n0_; clear n0_; clear hb hbox hg) | ((with_reducible refine gate_dst (N := 3) rfl ?_); refine box_event ?hg (N := 3) ?hd (cs := #[.slice A1_0 l1_0.length c1_0, .int .i64 a1_1, .int .i64 a1_2, .string a1_3]) (t := 34) ?hr ?_; (case hd => rfl); (case hg => rfl); (case hr => first | (go_simp; done) | (go_simp; rfl)); intro gb337 hg w6 hbox hb; have n0_ := Aside0.mk (bb_ BK336.out hb); have n1_ := Aside0.mk (below_step (by repeat (first | (with_reducible first | exact HB.out | apply ba_ | apply bn_ | apply bd_ | refine below_set ?_ GE336.out) | exact HB.out)) hb); have n2_ := Aside0.mk (hbox); have n3_ := Aside0.mk ((by rw [hg]; exact (below_size (by repeat (first | (with_reducible first | exact HB.out | apply ba_ | apply bn_ | apply bd_ | refine below_set ?_ GE336.out) | exact HB.out))) : w.heap.size ≤ gb337)); have n4_ := n3_; have n5_ := Aside0.mk (nl_ BK336.out hg); have n6_ := Aside0.mk (ng_ BK336.out hg); clear BK336; clear HB; have BK336 := n0_; have HB := n1_; have BK337 := n2_; have GW337 := n3_; have GE337 := n4_; have NB336_337 := n5_; have NB337_336 := n6_; clear n0_ n1_ n2_ n3_ n4_ n5_ n6_; clear hb hbox hg; have hnb7 := NB336_337.out; have hnc7 := NB337_336.out; have hcz8_0 : w6.cell? ⟨gb336, 0, none⟩ = some (.slice A0_0 l0_0.length c0_0) := (blk_cell BK336.out 0).trans rfl; have hcz8_1 : w6.cell? ⟨gb336, 1, none⟩ = some (.bool a0_1) := (blk_cell BK336.out 1).trans rfl; have hfz8_0 := blk_frozen BK336.out 0; have hfz8_1 := blk_frozen BK336.out 1) | ((with_reducible refine gate_callee (f := 20) rfl ?_); refine goesL_ (some 16) rfl rfl Try.func20 (by kernel_rfl) rfl #[.agg #[.slice A0_0 l0_0.length c0_0, .bool a0_1], .int .i64 1048576] rfl (by (try simp only [mp_]); first | done | rfl | (simp only [List.length_drop, List.length_take]; rfl)) ?_; (with_reducible refine (laws_szSub.calls k _ _ l0_0 a0_1 1048576 t338 _ ?side1 ?side2 A3.out).mono ?_); (case side1 => repeat (first | exact (Kd.C_below HR0_0.out HB.out) | (with_reducible first | refine ca_ ?_ _ | refine cn_ ?_ _ | refine cd_ ?_))); (case side2 => exact HC0_0.out); rintro e w9 ⟨rfl, hb⟩; refine ⟨_, rfl, ?_⟩; have n0_ := Aside0.mk (below_step (by repeat (first | (with_reducible first | exact HB.out | apply ba_ | apply bn_ | apply bd_) | exact HB.out)) hb); clear HB; have HB := n0_; clear n0_; (try clear hb); (try clear hb2); (try clear hk); (try clear hi)))
  go_ret
  exact ⟨by first | rfl | (simp [errW_none, errW_some] <;> rfl) | (simp [*, errW_none, errW_some] <;> rfl), by repeat (first | (with_reducible first | exact HB.out | apply ba_ | apply bn_ | apply bd_) | exact HB.out)⟩
 rw [if_neg c4] at H
 have c4b0 : decide (t338 < 0) = false := decide_eq_false c4
 clear c4
 replace H := Option.bind_eq_some_iff.mp H
 obtain ⟨t339, A100, H⟩ := H
 have A10 := Aside0.mk A100
 clear A100
 by_cases c11 : t339 < 0
 ·
  rw [if_pos c11] at H
  have c11b0 := decide_eq_true c11
  clear c11
  obtain rfl := Option.some.inj H
  go_enter Try.func4, Try.ntmps4
  go_wp2_with (first | ((with_reducible refine gate_dst (N := 2) rfl ?_); refine box_event ?hg (N := 2) ?hd (cs := #[.slice A0_0 l0_0.length c0_0, .bool a0_1]) (t := 31) ?hr ?_; (case hd => rfl); (case hg => rfl); (case hr => first | (go_simp; done) | (go_simp; rfl)); intro gb336 hg w12 hbox hb; have n0_ := Aside0.mk (below_step (by repeat (first | (with_reducible first | exact HB.out | apply ba_ | apply bn_ | apply bd_) | exact HB.out)) hb); have BK336 := Aside0.mk (hbox); have GW336 := Aside0.mk ((by rw [hg]; exact (below_size (by repeat (first | (with_reducible first | exact HB.out | apply ba_ | apply bn_ | apply bd_) | exact HB.out))) : w.heap.size ≤ gb336)); have GE336 := GW336; clear HB; have HB := n0_; clear n0_; clear hb hbox hg) | ((with_reducible refine gate_dst (N := 3) rfl ?_); refine box_event ?hg (N := 3) ?hd (cs := #[.slice A1_0 l1_0.length c1_0, .int .i64 a1_1, .int .i64 a1_2, .string a1_3]) (t := 34) ?hr ?_; (case hd => rfl); (case hg => rfl); (case hr => first | (go_simp; done) | (go_simp; rfl)); intro gb337 hg w13 hbox hb; have n0_ := Aside0.mk (bb_ BK336.out hb); have n1_ := Aside0.mk (below_step (by repeat (first | (with_reducible first | exact HB.out | apply ba_ | apply bn_ | apply bd_ | refine below_set ?_ GE336.out) | exact HB.out)) hb); have n2_ := Aside0.mk (hbox); have n3_ := Aside0.mk ((by rw [hg]; exact (below_size (by repeat (first | (with_reducible first | exact HB.out | apply ba_ | apply bn_ | apply bd_ | refine below_set ?_ GE336.out) | exact HB.out))) : w.heap.size ≤ gb337)); have n4_ := n3_; have n5_ := Aside0.mk (nl_ BK336.out hg); have n6_ := Aside0.mk (ng_ BK336.out hg); clear BK336; clear HB; have BK336 := n0_; have HB := n1_; have BK337 := n2_; have GW337 := n3_; have GE337 := n4_; have NB336_337 := n5_; have NB337_336 := n6_; clear n0_ n1_ n2_ n3_ n4_ n5_ n6_; clear hb hbox hg; have hnb14 := NB336_337.out; have hnc14 := NB337_336.out; have hcz15_0 : w13.cell? ⟨gb336, 0, none⟩ = some (.slice A0_0 l0_0.length c0_0) := (blk_cell BK336.out 0).trans rfl; have hcz15_1 : w13.cell? ⟨gb336, 1, none⟩ = some (.bool a0_1) := (blk_cell BK336.out 1).trans rfl; have hfz15_0 := blk_frozen BK336.out 0; have hfz15_1 := blk_frozen BK336.out 1) | ((with_reducible refine gate_callee (f := 20) rfl ?_); refine goesL_ (some 16) rfl rfl Try.func20 (by kernel_rfl) rfl #[.agg #[.slice A0_0 l0_0.length c0_0, .bool a0_1], .int .i64 1048576] rfl (by (try simp only [mp_]); first | done | rfl | (simp only [List.length_drop, List.length_take]; rfl)) ?_; (with_reducible refine (laws_szSub.calls k _ _ l0_0 a0_1 1048576 t338 _ ?side1 ?side2 A3.out).mono ?_); (case side1 => repeat (first | exact (Kd.C_below HR0_0.out HB.out) | (with_reducible first | refine ca_ ?_ _ | refine cn_ ?_ _ | refine cd_ ?_))); (case side2 => exact HC0_0.out); rintro e w16 ⟨rfl, hb⟩; refine ⟨_, rfl, ?_⟩; have n0_ := Aside0.mk (bb_ BK337.out hb); have n1_ := Aside0.mk (below_step (by repeat (first | (with_reducible first | exact HB.out | apply ba_ | apply bn_ | apply bd_ | refine below_set ?_ GE337.out) | exact HB.out)) hb); clear BK337; clear HB; have BK337 := n0_; have HB := n1_; clear n0_ n1_; (try clear hb); (try clear hb2); (try clear hk); (try clear hi); have hcz17_0 : w16.cell? ⟨gb337, 0, none⟩ = some (.slice A1_0 l1_0.length c1_0) := (blk_cell BK337.out 0).trans rfl; have hcz17_1 : w16.cell? ⟨gb337, 1, none⟩ = some (.int .i64 a1_1) := (blk_cell BK337.out 1).trans rfl; have hcz17_2 : w16.cell? ⟨gb337, 2, none⟩ = some (.int .i64 a1_2) := (blk_cell BK337.out 2).trans rfl; have hcz17_3 : w16.cell? ⟨gb337, 3, none⟩ = some (.string a1_3) := (blk_cell BK337.out 3).trans rfl; have hfz17_0 := blk_frozen BK337.out 0; have hfz17_1 := blk_frozen BK337.out 1; have hfz17_2 := blk_frozen BK337.out 2; have hfz17_3 := blk_frozen BK337.out 3) | ((with_reducible refine gate_callee (f := 21) rfl ?_); refine goesL_ (some 21) rfl rfl Try.func21 (by kernel_rfl) rfl #[.agg #[.slice A1_0 l1_0.length c1_0, .int .i64 a1_1, .int .i64 a1_2, .string a1_3], .int .i64 t338] rfl (by (try simp only [mp_]); first | done | rfl | (simp only [List.length_drop, List.length_take]; rfl)) ?_; (with_reducible refine (laws_szAlarm.calls k _ _ l1_0 a1_1 a1_2 a1_3 t338 t339 _ ?side1 ?side2 A10.out).mono ?_); (case side1 => repeat (first | exact (Kd.C_below HR1_0.out HB.out) | (with_reducible first | refine ca_ ?_ _ | refine cn_ ?_ _ | refine cd_ ?_))); (case side2 => exact HC1_0.out); rintro e w18 ⟨rfl, hb⟩; refine ⟨_, rfl, ?_⟩; have n0_ := Aside0.mk (below_step (by repeat (first | (with_reducible first | exact HB.out | apply ba_ | apply bn_ | apply bd_) | exact HB.out)) hb); clear HB; have HB := n0_; clear n0_; (try clear hb); (try clear hb2); (try clear hk); (try clear hi)))
  go_ret
  exact ⟨by first | rfl | (simp [errW_none, errW_some] <;> rfl) | (simp [*, errW_none, errW_some] <;> rfl), by repeat (first | (with_reducible first | exact HB.out | apply ba_ | apply bn_ | apply bd_) | exact HB.out)⟩
 rw [if_neg c11] at H
 have c11b0 : decide (t339 < 0) = false := decide_eq_false c11
 clear c11
 replace H := Option.bind_eq_some_iff.mp H
 obtain ⟨⟨t340, t343⟩, A190, H⟩ := H
 have A19 := Aside0.mk A190
 clear A190
 replace H := Option.bind_eq_some_iff.mp H
 obtain ⟨⟨t344, t347, t348, t349⟩, A200, H⟩ := H
 have A20 := Aside0.mk A200
 clear A200
 replace H := Option.bind_eq_some_iff.mp H
 obtain ⟨⟨t350, t353⟩, A210, H⟩ := H
 have A21 := Aside0.mk A210
 clear A210
 replace H := Option.bind_eq_some_iff.mp H
 obtain ⟨⟨t355, t358⟩, A220, H⟩ := H
 have A22 := Aside0.mk A220
 clear A220
 replace H := Option.bind_eq_some_iff.mp H
 obtain ⟨⟨t360, t363, t364, t365⟩, A230, H⟩ := H
 have A23 := Aside0.mk A230
 clear A230
 replace H := Option.bind_eq_some_iff.mp H
 obtain ⟨⟨t367, t370⟩, A240, H⟩ := H
 have A24 := Aside0.mk A240
 clear A240
 replace H := Option.bind_eq_some_iff.mp H
 obtain ⟨t372, A250, H⟩ := H
 have A25 := Aside0.mk A250
 clear A250
 by_cases c26 : t372 = true
 ·
  subst c26
  rw [if_pos rfl] at H
  replace H := Option.bind_eq_some_iff.mp H
  obtain ⟨⟨t373, t376⟩, A270, H⟩ := H
  have A27 := Aside0.mk A270
  clear A270
  replace H := Option.bind_eq_some_iff.mp H
  obtain ⟨t377, A280, H⟩ := H
  have A28 := Aside0.mk A280
  clear A280
  by_cases c29 : t377 = true
  ·
   subst c29
   rw [if_pos rfl] at H
   replace H := Option.bind_eq_some_iff.mp H
   obtain ⟨⟨t378, t381, t382, t383⟩, A300, H⟩ := H
   have A30 := Aside0.mk A300
   clear A300
   replace H := Option.bind_eq_some_iff.mp H
   obtain ⟨t384, A310, H⟩ := H
   have A31 := Aside0.mk A310
   clear A310
   by_cases c32 : t384 = true
   ·
    subst c32
    rw [if_pos rfl] at H
    replace H := Option.bind_eq_some_iff.mp H
    obtain ⟨⟨t385, t386⟩, A330, H⟩ := H
    have A33 := Aside0.mk A330
    clear A330
    replace H := Option.bind_eq_some_iff.mp H
    obtain ⟨⟨t387, t388⟩, A340, H⟩ := H
    have A34 := Aside0.mk A340
    clear A340
    by_cases c35 : t387 < 0
    ·
     rw [if_pos c35] at H
     exact absurd H (by simp)
    rw [if_neg c35] at H
    have c35b0 : decide (t387 < 0) = false := decide_eq_false c35
    clear c35
    replace H := Option.bind_eq_some_iff.mp H
    obtain ⟨t389, A360, H⟩ := H
    have A36 := Aside0.mk A360
    clear A360
    by_cases c37 : t389 = true
    ·
     subst c37
     rw [if_pos rfl] at H
     replace H := Option.bind_eq_some_iff.mp H
     obtain ⟨⟨t390, t391⟩, A380, H⟩ := H
     have A38 := Aside0.mk A380
     clear A380
     replace H := Option.bind_eq_some_iff.mp H
     obtain ⟨t392, A390, H⟩ := H
     have A39 := Aside0.mk A390
     clear A390
     by_cases c40 : t392 < 0
     ·
      rw [if_pos c40] at H
      exact absurd H (by simp)
     rw [if_neg c40] at H
     have c40b0 : decide (t392 < 0) = false := decide_eq_false c40
     clear c40
     by_cases c41 : t392 = t390
     ·
      rw [if_pos c41] at H
      have c41b0 : (t392 == t390) = true := beq_iff_eq.mpr c41
      have c41b1 : (t392 != t390) = false := bne_eq_false_iff_eq.mpr c41
      clear c41
      replace H := Option.bind_eq_some_iff.mp H
      obtain ⟨⟨t393, t396⟩, A420, H⟩ := H
      have A42 := Aside0.mk A420
      clear A420
      replace H := Option.bind_eq_some_iff.mp H
      obtain ⟨⟨t397, t400, t401, t402⟩, A430, H⟩ := H
      have A43 := Aside0.mk A430
      clear A430
      replace H := Option.bind_eq_some_iff.mp H
      obtain ⟨⟨t403, t406⟩, A440, H⟩ := H
      have A44 := Aside0.mk A440
      clear A440
      replace H := Option.bind_eq_some_iff.mp H
      obtain ⟨t408, A450, H⟩ := H
      have A45 := Aside0.mk A450
      clear A450
      by_cases c46 : t408 = true
      ·
       subst c46
       rw [if_pos rfl] at H
       replace H := Option.bind_eq_some_iff.mp H
       obtain ⟨t409, A470, H⟩ := H
       have A47 := Aside0.mk A470
       clear A470
       by_cases c48 : t409 < 0
       ·
        rw [if_pos c48] at H
        exact absurd H (by simp)
       rw [if_neg c48] at H
       have c48b0 : decide (t409 < 0) = false := decide_eq_false c48
       clear c48
       by_cases c49 : t409 = t390
       ·
        rw [if_pos c49] at H
        have c49b0 : (t409 == t390) = true := beq_iff_eq.mpr c49
        have c49b1 : (t409 != t390) = false := bne_eq_false_iff_eq.mpr c49
        clear c49
        obtain rfl := Option.some.inj H
        go_enter Try.func4, Try.ntmps4
        try go_wp2_with (first | ((with_reducible refine gate_dst (N := 2) rfl ?_); refine box_event ?hg (N := 2) ?hd (cs := #[.slice A0_0 l0_0.length c0_0, .bool a0_1]) (t := 31) ?hr ?_; (case hd => rfl); (case hg => rfl); (case hr => first | (go_simp; done) | (go_simp; rfl)); intro gb336 hg w50 hbox hb; have n0_ := Aside0.mk (below_step (by repeat (first | (with_reducible first | exact HB.out | apply ba_ | apply bn_ | apply bd_) | exact HB.out)) hb); have BK336 := Aside0.mk (hbox); have GW336 := Aside0.mk ((by rw [hg]; exact (below_size (by repeat (first | (with_reducible first | exact HB.out | apply ba_ | apply bn_ | apply bd_) | exact HB.out))) : w.heap.size ≤ gb336)); have GE336 := GW336; clear HB; have HB := n0_; clear n0_; clear hb hbox hg) | ((with_reducible refine gate_dst (N := 3) rfl ?_); refine box_event ?hg (N := 3) ?hd (cs := #[.slice A1_0 l1_0.length c1_0, .int .i64 a1_1, .int .i64 a1_2, .string a1_3]) (t := 34) ?hr ?_; (case hd => rfl); (case hg => rfl); (case hr => first | (go_simp; done) | (go_simp; rfl)); intro gb337 hg w51 hbox hb; have n0_ := Aside0.mk (bb_ BK336.out hb); have n1_ := Aside0.mk (below_step (by repeat (first | (with_reducible first | exact HB.out | apply ba_ | apply bn_ | apply bd_ | refine below_set ?_ GE336.out) | exact HB.out)) hb); have n2_ := Aside0.mk (hbox); have n3_ := Aside0.mk ((by rw [hg]; exact (below_size (by repeat (first | (with_reducible first | exact HB.out | apply ba_ | apply bn_ | apply bd_ | refine below_set ?_ GE336.out) | exact HB.out))) : w.heap.size ≤ gb337)); have n4_ := n3_; have n5_ := Aside0.mk (nl_ BK336.out hg); have n6_ := Aside0.mk (ng_ BK336.out hg); clear BK336; clear HB; have BK336 := n0_; have HB := n1_; have BK337 := n2_; have GW337 := n3_; have GE337 := n4_; have NB336_337 := n5_; have NB337_336 := n6_; clear n0_ n1_ n2_ n3_ n4_ n5_ n6_; clear hb hbox hg; have hnb52 := NB336_337.out; have hnc52 := NB337_336.out; have hcz53_0 : w51.cell? ⟨gb336, 0, none⟩ = some (.slice A0_0 l0_0.length c0_0) := (blk_cell BK336.out 0).trans rfl; have hcz53_1 : w51.cell? ⟨gb336, 1, none⟩ = some (.bool a0_1) := (blk_cell BK336.out 1).trans rfl; have hfz53_0 := blk_frozen BK336.out 0; have hfz53_1 := blk_frozen BK336.out 1) | ((with_reducible refine gate_callee (f := 20) rfl ?_); refine goesL_ (some 16) rfl rfl Try.func20 (by kernel_rfl) rfl #[.agg #[.slice A0_0 l0_0.length c0_0, .bool a0_1], .int .i64 1048576] rfl (by (try simp only [mp_]); first | done | rfl | (simp only [List.length_drop, List.length_take]; rfl)) ?_; (with_reducible refine (laws_szSub.calls k _ _ l0_0 a0_1 1048576 t338 _ ?side1 ?side2 A3.out).mono ?_); (case side1 => repeat (first | exact (Kd.C_below HR0_0.out HB.out) | (with_reducible first | refine ca_ ?_ _ | refine cn_ ?_ _ | refine cd_ ?_))); (case side2 => exact HC0_0.out); rintro e w54 ⟨rfl, hb⟩; refine ⟨_, rfl, ?_⟩; have n0_ := Aside0.mk (bb_ BK336.out hb); have n1_ := Aside0.mk (bb_ BK337.out hb); have n2_ := Aside0.mk (below_step (by repeat (first | (with_reducible first | exact HB.out | apply ba_ | apply bn_ | apply bd_ | refine below_set ?_ GE336.out | refine below_set ?_ GE337.out) | exact HB.out)) hb); clear BK336; clear BK337; clear HB; have BK336 := n0_; have BK337 := n1_; have HB := n2_; clear n0_ n1_ n2_; (try clear hb); (try clear hb2); (try clear hk); (try clear hi); have hcz55_0 : w54.cell? ⟨gb337, 0, none⟩ = some (.slice A1_0 l1_0.length c1_0) := (blk_cell BK337.out 0).trans rfl; have hcz55_1 : w54.cell? ⟨gb337, 1, none⟩ = some (.int .i64 a1_1) := (blk_cell BK337.out 1).trans rfl; have hcz55_2 : w54.cell? ⟨gb337, 2, none⟩ = some (.int .i64 a1_2) := (blk_cell BK337.out 2).trans rfl; have hcz55_3 : w54.cell? ⟨gb337, 3, none⟩ = some (.string a1_3) := (blk_cell BK337.out 3).trans rfl; have hfz55_0 := blk_frozen BK337.out 0; have hfz55_1 := blk_frozen BK337.out 1; have hfz55_2 := blk_frozen BK337.out 2; have hfz55_3 := blk_frozen BK337.out 3) | ((with_reducible refine gate_callee (f := 21) rfl ?_); refine goesL_ (some 21) rfl rfl Try.func21 (by kernel_rfl) rfl #[.agg #[.slice A1_0 l1_0.length c1_0, .int .i64 a1_1, .int .i64 a1_2, .string a1_3], .int .i64 t338] rfl (by (try simp only [mp_]); first | done | rfl | (simp only [List.length_drop, List.length_take]; rfl)) ?_; (with_reducible refine (laws_szAlarm.calls k _ _ l1_0 a1_1 a1_2 a1_3 t338 t339 _ ?side1 ?side2 A10.out).mono ?_); (case side1 => repeat (first | exact (Kd.C_below HR1_0.out HB.out) | (with_reducible first | refine ca_ ?_ _ | refine cn_ ?_ _ | refine cd_ ?_))); (case side2 => exact HC1_0.out); rintro e w56 ⟨rfl, hb⟩; refine ⟨_, rfl, ?_⟩; have n0_ := Aside0.mk (bb_ BK336.out hb); have n1_ := Aside0.mk (bb_ BK337.out hb); have n2_ := Aside0.mk (below_step (by repeat (first | (with_reducible first | exact HB.out | apply ba_ | apply bn_ | apply bd_ | refine below_set ?_ GE336.out | refine below_set ?_ GE337.out) | exact HB.out)) hb); clear BK336; clear BK337; clear HB; have BK336 := n0_; have BK337 := n1_; have HB := n2_; clear n0_ n1_ n2_; (try clear hb); (try clear hb2); (try clear hk); (try clear hi)))
        have n0_ := Aside0.mk (blk_drew BK336.out)
        have n1_ := Aside0.mk (blk_drew BK337.out)
        have n2_ := Aside0.mk (bd_ HB.out)
        clear BK336
        clear BK337
        clear HB
        have BK336 := n0_
        have BK337 := n1_
        have HB := n2_
        clear n0_ n1_ n2_
        refine start_ (n := 7) (S := fun w' => w'.cell? ⟨gb336, 0, none⟩ = some (.slice A0_0 l0_0.length c0_0) ∧ w'.cell? ⟨gb336, 1, none⟩ = some (.bool a0_1) ∧ w'.cell? ⟨gb337, 0, none⟩ = some (.slice A1_0 l1_0.length c1_0) ∧ w'.cell? ⟨gb337, 1, none⟩ = some (.int .i64 a1_1) ∧ w'.cell? ⟨gb337, 2, none⟩ = some (.int .i64 a1_2) ∧ w'.cell? ⟨gb337, 3, none⟩ = some (.string a1_3)) (ds := []) #[f_,f_,f_,f_,f_,f_,f_] (by kernel_rfl) rfl rfl ⟨(blk_cell BK336.out 0).trans rfl, (blk_cell BK336.out 1).trans rfl, (blk_cell BK337.out 0).trans rfl, (blk_cell BK337.out 1).trans rfl, (blk_cell BK337.out 2).trans rfl, (blk_cell BK337.out 3).trans rfl⟩ (fun hHeld => ?_)
        generalize w56.drew = w57 at BK336 BK337 HB hHeld ⊢
        refine take_ (i := 0) (N := some 24) (v := ?_) (a' := ?_) #[t_,f_,f_,f_,f_,f_,f_] rfl rfl (by kernel_rfl) (fun _ _ _ h => h) (Or.inl ⟨by rfl, ?_⟩) hHeld ?_ ?_
        rotate_left
        ·
         rintro w' ⟨s0, s1, s2, s3, s4, s5⟩
         go_simp
         with_reducible rfl
        rotate_left
        ·
         simp only [fr_]
         rfl
        refine take_ (i := 2) (N := some 26) (v := ?_) (a' := ?_) #[t_,f_,t_,f_,f_,f_,f_] rfl rfl (by kernel_rfl) (fun _ _ _ h => h) (Or.inl ⟨by rfl, ?_⟩) hHeld ?_ ?_
        rotate_left
        ·
         rintro w' ⟨s0, s1, s2, s3, s4, s5⟩
         go_simp
         with_reducible rfl
        rotate_left
        ·
         simp only [fr_]
         rfl
        refine join_ (σ := Value × Value × Value × Nat) 1 #[t_,t_,t_,t_,t_,t_,f_] (fun s_ => [(25, .agg #[s_.1, .bool t343]), (27, .agg #[s_.2.1, .int .i64 t347, .int .i64 t348, .string t349]), (28, .agg #[s_.2.2.1, .bool t353]), (6, .pointer (some ⟨s_.2.2.2, 0, none⟩))]) (fun s_ w' => (w'.cell? ⟨gb336, 0, none⟩ = some (.slice A0_0 l0_0.length c0_0) ∧ w'.cell? ⟨gb336, 1, none⟩ = some (.bool a0_1) ∧ w'.cell? ⟨gb337, 0, none⟩ = some (.slice A1_0 l1_0.length c1_0) ∧ w'.cell? ⟨gb337, 1, none⟩ = some (.int .i64 a1_1) ∧ w'.cell? ⟨gb337, 2, none⟩ = some (.int .i64 a1_2) ∧ w'.cell? ⟨gb337, 3, none⟩ = some (.string a1_3)) ∧ (Kd.S k44 44 w' w.heap.size (fun _ => True) s_.1 t340) ∧ (Kd.R k164 164 w' w.heap.size (fun _ => True) s_.2.1 t344) ∧ (Kd.S k44 44 w' w.heap.size (fun _ => True) s_.2.2.1 t350) ∧ (w'.heap[gb336]? = some (.cells #[.slice A0_0 l0_0.length c0_0, .bool a0_1] 31 (0, 0))) ∧ (w'.heap[gb337]? = some (.cells #[.slice A1_0 l1_0.length c1_0, .int .i64 a1_1, .int .i64 a1_2, .string a1_3] 34 (0, 0))) ∧ (w'.heap[s_.2.2.2]? = some (.cells #[.slice none 0 0, .bool false] 39 (0, 0))) ∧ (w.heap.size ≤ s_.2.2.2) ∧ (w.heap.size ≤ s_.2.2.2) ∧ (gb336 ≠ s_.2.2.2) ∧ (s_.2.2.2 ≠ gb336) ∧ (gb337 ≠ s_.2.2.2) ∧ (s_.2.2.2 ≠ gb337) ∧ (Below w.heap.size w w')) ?_ ?_
        rotate_left
        ·
         intro hCont
         refine two_ (i := 1) (j := 5) (Ni := some 25) (Nj := some 6) #[t_,t_,t_,f_,f_,f_,f_] #[t_,f_,t_,f_,f_,t_,f_] rfl rfl rfl rfl (by kernel_rfl) (by decide) (by decide) (fun K hK => ?_) (fun K hK => ?_)
         ·
          skip
          refine goes_ Try.func23 (by kernel_rfl) rfl #[.agg #[.slice A0_0 l0_0.length c0_0, .bool a0_1]] (by rfl) rfl rfl (by (try simp only [mp_]); first | done | rfl | (simp only [List.length_drop, List.length_take]; rfl)) ?_
          with_reducible refine (laws_toSub.calls k _ _ l0_0 a0_1 t340 t343 _ ?side1 ?side2 A19.out).mono ?_
          (case side1 => repeat (first | exact (Kd.C_below HR0_0.out HB.out) | (with_reducible first | refine ca_ ?_ _ | refine cn_ ?_ _ | refine cd_ ?_)))
          (case side2 => exact HC0_0.out)
          rintro e w58 ⟨v341, rfl, ho0, hb⟩
          refine ⟨_, rfl, ?_⟩
          obtain ⟨nz59, hz59⟩ := Kd.S_name ho0
          have n0_ := Aside0.mk (Kd.S_lower (Kd.S_gez hz59 ho0) (below_size (by repeat (first | (with_reducible first | exact HB.out | apply ba_ | apply bn_ | apply bd_ | refine below_set ?_ GE336.out | refine below_set ?_ GE337.out) | exact HB.out))))
          have n1_ := Aside0.mk (bb_ BK336.out hb)
          have n2_ := Aside0.mk (bb_ BK337.out hb)
          have n3_ := Aside0.mk (below_step (by repeat (first | (with_reducible first | exact HB.out | apply ba_ | apply bn_ | apply bd_ | refine below_set ?_ GE336.out | refine below_set ?_ GE337.out) | exact HB.out)) hb)
          clear BK336
          clear BK337
          clear HB
          have HO342 := n0_
          have BK336 := n1_
          have BK337 := n2_
          have HB := n3_
          clear n0_ n1_ n2_ n3_
          (try clear hb)
          (try clear hb2)
          (try clear hk)
          (try clear hi)
          (try clear ho0)
          refine hK.out _ _ ⟨(blk_cell BK336.out 0).trans rfl, (blk_cell BK336.out 1).trans rfl, (blk_cell BK337.out 0).trans rfl, (blk_cell BK337.out 1).trans rfl, (blk_cell BK337.out 2).trans rfl, (blk_cell BK337.out 3).trans rfl⟩ (fun hHeld => ?_)
          clear hK K
          refine norm_ (a' := ?_) ?_ ?_
          rotate_left
          ·
           show Act.put _ (some 25) _ = _
           simp only [fr_]
           rfl
          refine two_ (i := 3) (j := 5) (Ni := some 27) (Nj := some 6) #[t_,t_,t_,t_,f_,f_,f_] #[t_,t_,t_,f_,f_,t_,f_] rfl rfl rfl rfl (by kernel_rfl) (by decide) (by decide) (fun K hK => ?_) (fun K hK => ?_)
          ·
           skip
           refine goes_ Try.func24 (by kernel_rfl) rfl #[.agg #[.slice A1_0 l1_0.length c1_0, .int .i64 a1_1, .int .i64 a1_2, .string a1_3]] (by rfl) rfl rfl (by (try simp only [mp_]); first | done | rfl | (simp only [List.length_drop, List.length_take]; rfl)) ?_
           with_reducible refine (laws_toAlarm.calls k _ _ l1_0 a1_1 a1_2 a1_3 t344 t347 t348 t349 _ ?side1 ?side2 A20.out).mono ?_
           (case side1 => repeat (first | exact (Kd.C_below HR1_0.out HB.out) | (with_reducible first | refine ca_ ?_ _ | refine cn_ ?_ _ | refine cd_ ?_)))
           (case side2 => exact HC1_0.out)
           rintro e w60 ⟨v345, rfl, ho0, hb⟩
           refine ⟨_, rfl, ?_⟩
           obtain ⟨nz61, hz61⟩ := Kd.R_name ho0
           have n0_ := Aside0.mk (Kd.S_below (Kd.S_ltz hz61 (sp_ HO342.out)) hb)
           have n1_ := Aside0.mk (Kd.R_lower (Kd.R_gez hz61 ho0) (below_size (by repeat (first | (with_reducible first | exact HB.out | apply ba_ | apply bn_ | apply bd_ | refine below_set ?_ GE336.out | refine below_set ?_ GE337.out) | exact HB.out))))
           have n2_ := Aside0.mk (bb_ BK336.out hb)
           have n3_ := Aside0.mk (bb_ BK337.out hb)
           have n4_ := Aside0.mk (below_step (by repeat (first | (with_reducible first | exact HB.out | apply ba_ | apply bn_ | apply bd_ | refine below_set ?_ GE336.out | refine below_set ?_ GE337.out) | exact HB.out)) hb)
           clear HO342
           clear BK336
           clear BK337
           clear HB
           have HO342 := n0_
           have HO346 := n1_
           have BK336 := n2_
           have BK337 := n3_
           have HB := n4_
           clear n0_ n1_ n2_ n3_ n4_
           (try clear hb)
           (try clear hb2)
           (try clear hk)
           (try clear hi)
           (try clear ho0)
           obtain ⟨Ao62, co62, eo62⟩ := Kd.S_slice HO342.out
           (first | subst eo62 | (injection eo62 with f1_ f2_ f3_; have f4_ := f1_.symm; have f5_ := f3_.symm; clear f1_ f2_ f3_; subst f4_; subst f5_))
           obtain ⟨Ao63, co63, eo63⟩ := Kd.R_slice HO346.out
           (first | subst eo63 | (injection eo63 with f1_ f2_ f3_; have f4_ := f1_.symm; have f5_ := f3_.symm; clear f1_ f2_ f3_; subst f4_; subst f5_))
           refine hK.out _ _ ⟨(blk_cell BK336.out 0).trans rfl, (blk_cell BK336.out 1).trans rfl, (blk_cell BK337.out 0).trans rfl, (blk_cell BK337.out 1).trans rfl, (blk_cell BK337.out 2).trans rfl, (blk_cell BK337.out 3).trans rfl⟩ (fun hHeld => ?_)
           clear hK K
           refine norm_ (a' := ?_) ?_ ?_
           rotate_left
           ·
            show Act.put _ (some 27) _ = _
            simp only [fr_]
            rfl
           refine two_ (i := 4) (j := 5) (Ni := some 28) (Nj := some 6) #[t_,t_,t_,t_,t_,f_,f_] #[t_,t_,t_,t_,f_,t_,f_] rfl rfl rfl rfl (by kernel_rfl) (by decide) (by decide) (fun K hK => ?_) (fun K hK => ?_)
           ·
            skip
            refine goes_ Try.func22 (by kernel_rfl) rfl #[.agg #[.slice Ao62 t340.length co62, .bool t343], .agg #[.slice Ao63 t344.length co63, .int .i64 t347, .int .i64 t348, .string t349]] (by rfl) rfl rfl (by (try simp only [mp_]); first | done | rfl | (simp only [List.length_drop, List.length_take]; rfl)) ?_
            with_reducible refine (spec_Tell.calls k _ _ t340 t343 _ _ t344 t347 t348 t349 t350 t353 _ ?side1 ?side2 ?side3 ?side4 A21.out).mono ?_
            (case side1 => repeat (first | exact (Kd.S_reads' HO342.out).2.2 | (with_reducible first | refine ca_ ?_ _ | refine cn_ ?_ _ | refine cd_ ?_)))
            (case side2 => exact (Kd.S_reads' HO342.out).2.1)
            (case side3 => repeat (first | exact (Kd.R_reads' HO346.out).2.2 | (with_reducible first | refine ca_ ?_ _ | refine cn_ ?_ _ | refine cd_ ?_)))
            (case side4 => exact (Kd.R_reads' HO346.out).2.1)
            rintro e w64 ⟨v351, rfl, ho0, hb⟩
            refine ⟨_, rfl, ?_⟩
            obtain ⟨nz65, hz65⟩ := Kd.S_name ho0
            have n0_ := Aside0.mk (Kd.S_below (Kd.S_ltz hz65 (sp_ HO342.out)) hb)
            have n1_ := Aside0.mk (Kd.R_below (Kd.R_ltz hz65 (rp_ HO346.out)) hb)
            have n2_ := Aside0.mk (Kd.S_lower (Kd.S_gez hz65 ho0) (below_size (by repeat (first | (with_reducible first | exact HB.out | apply ba_ | apply bn_ | apply bd_ | refine below_set ?_ GE336.out | refine below_set ?_ GE337.out) | exact HB.out))))
            have n3_ := Aside0.mk (bb_ BK336.out hb)
            have n4_ := Aside0.mk (bb_ BK337.out hb)
            have n5_ := Aside0.mk (below_step (by repeat (first | (with_reducible first | exact HB.out | apply ba_ | apply bn_ | apply bd_ | refine below_set ?_ GE336.out | refine below_set ?_ GE337.out) | exact HB.out)) hb)
            clear HO342
            clear HO346
            clear BK336
            clear BK337
            clear HB
            have HO342 := n0_
            have HO346 := n1_
            have HO352 := n2_
            have BK336 := n3_
            have BK337 := n4_
            have HB := n5_
            clear n0_ n1_ n2_ n3_ n4_ n5_
            (try clear hb)
            (try clear hb2)
            (try clear hk)
            (try clear hi)
            (try clear ho0)
            refine hK.out _ _ ⟨(blk_cell BK336.out 0).trans rfl, (blk_cell BK336.out 1).trans rfl, (blk_cell BK337.out 0).trans rfl, (blk_cell BK337.out 1).trans rfl, (blk_cell BK337.out 2).trans rfl, (blk_cell BK337.out 3).trans rfl⟩ (fun hHeld => ?_)
            clear hK K
            refine norm_ (a' := ?_) ?_ ?_
            rotate_left
            ·
             show Act.put _ (some 28) _ = _
             simp only [fr_]
             rfl
            refine one_ (i := 5) (N := some 6) #[t_,t_,t_,t_,t_,t_,f_] rfl rfl (by kernel_rfl) (by decide) (fun K hK => ?_)
            refine box_step ?hg (N := 6) ?hd (cs := #[.slice none 0 0, .bool false]) (t := 39) ?hr ?_; (case hd => rfl); (case hg => rfl); (case hr => first | (go_simp; done) | (go_simp; rfl))
            intro gb354 hg w66 hbox hb
            have n0_ := Aside0.mk (Kd.S_below (sp_ HO342.out) hb)
            have n1_ := Aside0.mk (Kd.R_below (rp_ HO346.out) hb)
            have n2_ := Aside0.mk (Kd.S_below (sp_ HO352.out) hb)
            have n3_ := Aside0.mk (bb_ BK336.out hb)
            have n4_ := Aside0.mk (bb_ BK337.out hb)
            have n5_ := Aside0.mk (below_step (by repeat (first | (with_reducible first | exact HB.out | apply ba_ | apply bn_ | apply bd_ | refine below_set ?_ GE336.out | refine below_set ?_ GE337.out) | exact HB.out)) hb)
            have n6_ := Aside0.mk (hbox)
            have n7_ := Aside0.mk ((by rw [hg]; exact (below_size (by repeat (first | (with_reducible first | exact HB.out | apply ba_ | apply bn_ | apply bd_ | refine below_set ?_ GE336.out | refine below_set ?_ GE337.out) | exact HB.out))) : w.heap.size ≤ gb354))
            have n8_ := Aside0.mk ((by rw [hg]; exact (below_size (by repeat (first | (with_reducible first | exact HB.out | apply ba_ | apply bn_ | apply bd_ | refine below_set ?_ GE336.out | refine below_set ?_ GE337.out) | exact HB.out))) : w.heap.size ≤ gb354))
            have n9_ := Aside0.mk (nl_ BK336.out hg)
            have n10_ := Aside0.mk (ng_ BK336.out hg)
            have n11_ := Aside0.mk (nl_ BK337.out hg)
            have n12_ := Aside0.mk (ng_ BK337.out hg)
            clear HO342
            clear HO346
            clear HO352
            clear BK336
            clear BK337
            clear HB
            have HO342 := n0_
            have HO346 := n1_
            have HO352 := n2_
            have BK336 := n3_
            have BK337 := n4_
            have HB := n5_
            have BK354 := n6_
            have GW354 := n7_
            have GE354 := n8_
            have NB336_354 := n9_
            have NB354_336 := n10_
            have NB337_354 := n11_
            have NB354_337 := n12_
            clear n0_ n1_ n2_ n3_ n4_ n5_ n6_ n7_ n8_ n9_ n10_ n11_ n12_
            clear hb hbox hg
            refine hK.out _ _ ⟨(blk_cell BK336.out 0).trans rfl, (blk_cell BK336.out 1).trans rfl, (blk_cell BK337.out 0).trans rfl, (blk_cell BK337.out 1).trans rfl, (blk_cell BK337.out 2).trans rfl, (blk_cell BK337.out 3).trans rfl⟩ (fun hHeld => ?_)
            clear hK K
            refine norm_ (a' := ?_) ?_ ?_
            rotate_left
            ·
             show Act.put _ (some 6) _ = _
             simp only [fr_]
             rfl
            exact norm_ (by simp only [putAll, Act.put, List.setIfInBounds_toArray, List.set_cons_zero, List.set_cons_succ]) (hCont (.slice Ao62 t340.length co62, .slice Ao63 t344.length co63, v351, gb354) _ ⟨hHeld, (by (with_reducible repeat (first | apply Kd.S_alloc | apply Kd.S_drewN | apply Kd.S_drew)); exact Kd.S_mono HO342.out (fun _ hk => trivial)), (by (with_reducible repeat (first | apply Kd.R_alloc | apply Kd.R_drewN | apply Kd.R_drew)); exact Kd.R_mono HO346.out (fun _ hk => trivial)), (by (with_reducible repeat (first | apply Kd.S_alloc | apply Kd.S_drewN | apply Kd.S_drew)); exact Kd.S_mono HO352.out (fun _ hk => trivial)), (pb_ BK336.out), (pb_ BK337.out), (pb_ BK354.out), GW354.out, GE354.out, NB336_354.out, NB354_336.out, NB337_354.out, NB354_337.out, (by repeat (first | (with_reducible first | exact HB.out | apply ba_ | apply bn_ | apply bd_ | refine below_set ?_ GE336.out | refine below_set ?_ GE337.out | refine below_set ?_ GE354.out) | exact HB.out))⟩)
           skip
           refine box_step ?hg (N := 6) ?hd (cs := #[.slice none 0 0, .bool false]) (t := 39) ?hr ?_; (case hd => rfl); (case hg => rfl); (case hr => first | (go_simp; done) | (go_simp; rfl))
           intro gb354 hg w62 hbox hb
           have n0_ := Aside0.mk (Kd.S_below (sp_ HO342.out) hb)
           have n1_ := Aside0.mk (Kd.R_below (rp_ HO346.out) hb)
           have n2_ := Aside0.mk (bb_ BK336.out hb)
           have n3_ := Aside0.mk (bb_ BK337.out hb)
           have n4_ := Aside0.mk (below_step (by repeat (first | (with_reducible first | exact HB.out | apply ba_ | apply bn_ | apply bd_ | refine below_set ?_ GE336.out | refine below_set ?_ GE337.out) | exact HB.out)) hb)
           have n5_ := Aside0.mk (hbox)
           have n6_ := Aside0.mk ((by rw [hg]; exact (below_size (by repeat (first | (with_reducible first | exact HB.out | apply ba_ | apply bn_ | apply bd_ | refine below_set ?_ GE336.out | refine below_set ?_ GE337.out) | exact HB.out))) : w.heap.size ≤ gb354))
           have n7_ := Aside0.mk ((by rw [hg]; exact (below_size (by repeat (first | (with_reducible first | exact HB.out | apply ba_ | apply bn_ | apply bd_ | refine below_set ?_ GE336.out | refine below_set ?_ GE337.out) | exact HB.out))) : w.heap.size ≤ gb354))
           have n8_ := Aside0.mk (nl_ BK336.out hg)
           have n9_ := Aside0.mk (ng_ BK336.out hg)
           have n10_ := Aside0.mk (nl_ BK337.out hg)
           have n11_ := Aside0.mk (ng_ BK337.out hg)
           clear HO342
           clear HO346
           clear BK336
           clear BK337
           clear HB
           have HO342 := n0_
           have HO346 := n1_
           have BK336 := n2_
           have BK337 := n3_
           have HB := n4_
           have BK354 := n5_
           have GW354 := n6_
           have GE354 := n7_
           have NB336_354 := n8_
           have NB354_336 := n9_
           have NB337_354 := n10_
           have NB354_337 := n11_
           clear n0_ n1_ n2_ n3_ n4_ n5_ n6_ n7_ n8_ n9_ n10_ n11_
           clear hb hbox hg
           obtain ⟨Ao63, co63, eo63⟩ := Kd.S_slice HO342.out
           (first | subst eo63 | (injection eo63 with f1_ f2_ f3_; have f4_ := f1_.symm; have f5_ := f3_.symm; clear f1_ f2_ f3_; subst f4_; subst f5_))
           obtain ⟨Ao64, co64, eo64⟩ := Kd.R_slice HO346.out
           (first | subst eo64 | (injection eo64 with f1_ f2_ f3_; have f4_ := f1_.symm; have f5_ := f3_.symm; clear f1_ f2_ f3_; subst f4_; subst f5_))
           refine hK.out _ _ ⟨(blk_cell BK336.out 0).trans rfl, (blk_cell BK336.out 1).trans rfl, (blk_cell BK337.out 0).trans rfl, (blk_cell BK337.out 1).trans rfl, (blk_cell BK337.out 2).trans rfl, (blk_cell BK337.out 3).trans rfl⟩ (fun hHeld => ?_)
           clear hK K
           refine norm_ (a' := ?_) ?_ ?_
           rotate_left
           ·
            show Act.put _ (some 6) _ = _
            simp only [fr_]
            rfl
           refine one_ (i := 4) (N := some 28) #[t_,t_,t_,t_,t_,t_,f_] rfl rfl (by kernel_rfl) (by decide) (fun K hK => ?_)
           refine goes_ Try.func22 (by kernel_rfl) rfl #[.agg #[.slice Ao63 t340.length co63, .bool t343], .agg #[.slice Ao64 t344.length co64, .int .i64 t347, .int .i64 t348, .string t349]] (by rfl) rfl rfl (by (try simp only [mp_]); first | done | rfl | (simp only [List.length_drop, List.length_take]; rfl)) ?_
           with_reducible refine (spec_Tell.calls k _ _ t340 t343 _ _ t344 t347 t348 t349 t350 t353 _ ?side1 ?side2 ?side3 ?side4 A21.out).mono ?_
           (case side1 => repeat (first | exact (Kd.S_reads' HO342.out).2.2 | (with_reducible first | refine ca_ ?_ _ | refine cn_ ?_ _ | refine cd_ ?_)))
           (case side2 => exact (Kd.S_reads' HO342.out).2.1)
           (case side3 => repeat (first | exact (Kd.R_reads' HO346.out).2.2 | (with_reducible first | refine ca_ ?_ _ | refine cn_ ?_ _ | refine cd_ ?_)))
           (case side4 => exact (Kd.R_reads' HO346.out).2.1)
           rintro e w65 ⟨v351, rfl, ho0, hb⟩
           refine ⟨_, rfl, ?_⟩
           obtain ⟨nz66, hz66⟩ := Kd.S_name ho0
           have n0_ := Aside0.mk (Kd.S_below (Kd.S_ltz hz66 (sp_ HO342.out)) hb)
           have n1_ := Aside0.mk (Kd.R_below (Kd.R_ltz hz66 (rp_ HO346.out)) hb)
           have n2_ := Aside0.mk (Kd.S_lower (Kd.S_gez hz66 ho0) (below_size (by repeat (first | (with_reducible first | exact HB.out | apply ba_ | apply bn_ | apply bd_ | refine below_set ?_ GE336.out | refine below_set ?_ GE337.out | refine below_set ?_ GE354.out) | exact HB.out))))
           have n3_ := Aside0.mk (bb_ BK336.out hb)
           have n4_ := Aside0.mk (bb_ BK337.out hb)
           have n5_ := Aside0.mk (bb_ BK354.out hb)
           have n6_ := Aside0.mk (below_step (by repeat (first | (with_reducible first | exact HB.out | apply ba_ | apply bn_ | apply bd_ | refine below_set ?_ GE336.out | refine below_set ?_ GE337.out | refine below_set ?_ GE354.out) | exact HB.out)) hb)
           clear HO342
           clear HO346
           clear BK336
           clear BK337
           clear BK354
           clear HB
           have HO342 := n0_
           have HO346 := n1_
           have HO352 := n2_
           have BK336 := n3_
           have BK337 := n4_
           have BK354 := n5_
           have HB := n6_
           clear n0_ n1_ n2_ n3_ n4_ n5_ n6_
           (try clear hb)
           (try clear hb2)
           (try clear hk)
           (try clear hi)
           (try clear ho0)
           refine hK.out _ _ ⟨(blk_cell BK336.out 0).trans rfl, (blk_cell BK336.out 1).trans rfl, (blk_cell BK337.out 0).trans rfl, (blk_cell BK337.out 1).trans rfl, (blk_cell BK337.out 2).trans rfl, (blk_cell BK337.out 3).trans rfl⟩ (fun hHeld => ?_)
           clear hK K
           refine norm_ (a' := ?_) ?_ ?_
           rotate_left
           ·
            show Act.put _ (some 28) _ = _
            simp only [fr_]
            rfl
           exact norm_ (by simp only [putAll, Act.put, List.setIfInBounds_toArray, List.set_cons_zero, List.set_cons_succ]) (hCont (.slice Ao63 t340.length co63, .slice Ao64 t344.length co64, v351, gb354) _ ⟨hHeld, (by (with_reducible repeat (first | apply Kd.S_alloc | apply Kd.S_drewN | apply Kd.S_drew)); exact Kd.S_mono HO342.out (fun _ hk => trivial)), (by (with_reducible repeat (first | apply Kd.R_alloc | apply Kd.R_drewN | apply Kd.R_drew)); exact Kd.R_mono HO346.out (fun _ hk => trivial)), (by (with_reducible repeat (first | apply Kd.S_alloc | apply Kd.S_drewN | apply Kd.S_drew)); exact Kd.S_mono HO352.out (fun _ hk => trivial)), (pb_ BK336.out), (pb_ BK337.out), (pb_ BK354.out), GW354.out, GE354.out, NB336_354.out, NB354_336.out, NB337_354.out, NB354_337.out, (by repeat (first | (with_reducible first | exact HB.out | apply ba_ | apply bn_ | apply bd_ | refine below_set ?_ GE336.out | refine below_set ?_ GE337.out | refine below_set ?_ GE354.out) | exact HB.out))⟩)
          skip
          refine box_step ?hg (N := 6) ?hd (cs := #[.slice none 0 0, .bool false]) (t := 39) ?hr ?_; (case hd => rfl); (case hg => rfl); (case hr => first | (go_simp; done) | (go_simp; rfl))
          intro gb354 hg w60 hbox hb
          have n0_ := Aside0.mk (Kd.S_below (sp_ HO342.out) hb)
          have n1_ := Aside0.mk (bb_ BK336.out hb)
          have n2_ := Aside0.mk (bb_ BK337.out hb)
          have n3_ := Aside0.mk (below_step (by repeat (first | (with_reducible first | exact HB.out | apply ba_ | apply bn_ | apply bd_ | refine below_set ?_ GE336.out | refine below_set ?_ GE337.out) | exact HB.out)) hb)
          have n4_ := Aside0.mk (hbox)
          have n5_ := Aside0.mk ((by rw [hg]; exact (below_size (by repeat (first | (with_reducible first | exact HB.out | apply ba_ | apply bn_ | apply bd_ | refine below_set ?_ GE336.out | refine below_set ?_ GE337.out) | exact HB.out))) : w.heap.size ≤ gb354))
          have n6_ := Aside0.mk ((by rw [hg]; exact (below_size (by repeat (first | (with_reducible first | exact HB.out | apply ba_ | apply bn_ | apply bd_ | refine below_set ?_ GE336.out | refine below_set ?_ GE337.out) | exact HB.out))) : w.heap.size ≤ gb354))
          have n7_ := Aside0.mk (nl_ BK336.out hg)
          have n8_ := Aside0.mk (ng_ BK336.out hg)
          have n9_ := Aside0.mk (nl_ BK337.out hg)
          have n10_ := Aside0.mk (ng_ BK337.out hg)
          clear HO342
          clear BK336
          clear BK337
          clear HB
          have HO342 := n0_
          have BK336 := n1_
          have BK337 := n2_
          have HB := n3_
          have BK354 := n4_
          have GW354 := n5_
          have GE354 := n6_
          have NB336_354 := n7_
          have NB354_336 := n8_
          have NB337_354 := n9_
          have NB354_337 := n10_
          clear n0_ n1_ n2_ n3_ n4_ n5_ n6_ n7_ n8_ n9_ n10_
          clear hb hbox hg
          refine hK.out _ _ ⟨(blk_cell BK336.out 0).trans rfl, (blk_cell BK336.out 1).trans rfl, (blk_cell BK337.out 0).trans rfl, (blk_cell BK337.out 1).trans rfl, (blk_cell BK337.out 2).trans rfl, (blk_cell BK337.out 3).trans rfl⟩ (fun hHeld => ?_)
          clear hK K
          refine norm_ (a' := ?_) ?_ ?_
          rotate_left
          ·
           show Act.put _ (some 6) _ = _
           simp only [fr_]
           rfl
          refine one_ (i := 3) (N := some 27) #[t_,t_,t_,t_,f_,t_,f_] rfl rfl (by kernel_rfl) (by decide) (fun K hK => ?_)
          refine goes_ Try.func24 (by kernel_rfl) rfl #[.agg #[.slice A1_0 l1_0.length c1_0, .int .i64 a1_1, .int .i64 a1_2, .string a1_3]] (by rfl) rfl rfl (by (try simp only [mp_]); first | done | rfl | (simp only [List.length_drop, List.length_take]; rfl)) ?_
          with_reducible refine (laws_toAlarm.calls k _ _ l1_0 a1_1 a1_2 a1_3 t344 t347 t348 t349 _ ?side1 ?side2 A20.out).mono ?_
          (case side1 => repeat (first | exact (Kd.C_below HR1_0.out HB.out) | (with_reducible first | refine ca_ ?_ _ | refine cn_ ?_ _ | refine cd_ ?_)))
          (case side2 => exact HC1_0.out)
          rintro e w61 ⟨v345, rfl, ho0, hb⟩
          refine ⟨_, rfl, ?_⟩
          obtain ⟨nz62, hz62⟩ := Kd.R_name ho0
          have n0_ := Aside0.mk (Kd.S_below (Kd.S_ltz hz62 (sp_ HO342.out)) hb)
          have n1_ := Aside0.mk (Kd.R_lower (Kd.R_gez hz62 ho0) (below_size (by repeat (first | (with_reducible first | exact HB.out | apply ba_ | apply bn_ | apply bd_ | refine below_set ?_ GE336.out | refine below_set ?_ GE337.out | refine below_set ?_ GE354.out) | exact HB.out))))
          have n2_ := Aside0.mk (bb_ BK336.out hb)
          have n3_ := Aside0.mk (bb_ BK337.out hb)
          have n4_ := Aside0.mk (bb_ BK354.out hb)
          have n5_ := Aside0.mk (below_step (by repeat (first | (with_reducible first | exact HB.out | apply ba_ | apply bn_ | apply bd_ | refine below_set ?_ GE336.out | refine below_set ?_ GE337.out | refine below_set ?_ GE354.out) | exact HB.out)) hb)
          clear HO342
          clear BK336
          clear BK337
          clear BK354
          clear HB
          have HO342 := n0_
          have HO346 := n1_
          have BK336 := n2_
          have BK337 := n3_
          have BK354 := n4_
          have HB := n5_
          clear n0_ n1_ n2_ n3_ n4_ n5_
          (try clear hb)
          (try clear hb2)
          (try clear hk)
          (try clear hi)
          (try clear ho0)
          obtain ⟨Ao63, co63, eo63⟩ := Kd.S_slice HO342.out
          (first | subst eo63 | (injection eo63 with f1_ f2_ f3_; have f4_ := f1_.symm; have f5_ := f3_.symm; clear f1_ f2_ f3_; subst f4_; subst f5_))
          obtain ⟨Ao64, co64, eo64⟩ := Kd.R_slice HO346.out
          (first | subst eo64 | (injection eo64 with f1_ f2_ f3_; have f4_ := f1_.symm; have f5_ := f3_.symm; clear f1_ f2_ f3_; subst f4_; subst f5_))
          refine hK.out _ _ ⟨(blk_cell BK336.out 0).trans rfl, (blk_cell BK336.out 1).trans rfl, (blk_cell BK337.out 0).trans rfl, (blk_cell BK337.out 1).trans rfl, (blk_cell BK337.out 2).trans rfl, (blk_cell BK337.out 3).trans rfl⟩ (fun hHeld => ?_)
          clear hK K
          refine norm_ (a' := ?_) ?_ ?_
          rotate_left
          ·
           show Act.put _ (some 27) _ = _
           simp only [fr_]
           rfl
          refine one_ (i := 4) (N := some 28) #[t_,t_,t_,t_,t_,t_,f_] rfl rfl (by kernel_rfl) (by decide) (fun K hK => ?_)
          refine goes_ Try.func22 (by kernel_rfl) rfl #[.agg #[.slice Ao63 t340.length co63, .bool t343], .agg #[.slice Ao64 t344.length co64, .int .i64 t347, .int .i64 t348, .string t349]] (by rfl) rfl rfl (by (try simp only [mp_]); first | done | rfl | (simp only [List.length_drop, List.length_take]; rfl)) ?_
          with_reducible refine (spec_Tell.calls k _ _ t340 t343 _ _ t344 t347 t348 t349 t350 t353 _ ?side1 ?side2 ?side3 ?side4 A21.out).mono ?_
          (case side1 => repeat (first | exact (Kd.S_reads' HO342.out).2.2 | (with_reducible first | refine ca_ ?_ _ | refine cn_ ?_ _ | refine cd_ ?_)))
          (case side2 => exact (Kd.S_reads' HO342.out).2.1)
          (case side3 => repeat (first | exact (Kd.R_reads' HO346.out).2.2 | (with_reducible first | refine ca_ ?_ _ | refine cn_ ?_ _ | refine cd_ ?_)))
          (case side4 => exact (Kd.R_reads' HO346.out).2.1)
          rintro e w65 ⟨v351, rfl, ho0, hb⟩
          refine ⟨_, rfl, ?_⟩
          obtain ⟨nz66, hz66⟩ := Kd.S_name ho0
          have n0_ := Aside0.mk (Kd.S_below (Kd.S_ltz hz66 (sp_ HO342.out)) hb)
          have n1_ := Aside0.mk (Kd.R_below (Kd.R_ltz hz66 (rp_ HO346.out)) hb)
          have n2_ := Aside0.mk (Kd.S_lower (Kd.S_gez hz66 ho0) (below_size (by repeat (first | (with_reducible first | exact HB.out | apply ba_ | apply bn_ | apply bd_ | refine below_set ?_ GE336.out | refine below_set ?_ GE337.out | refine below_set ?_ GE354.out) | exact HB.out))))
          have n3_ := Aside0.mk (bb_ BK336.out hb)
          have n4_ := Aside0.mk (bb_ BK337.out hb)
          have n5_ := Aside0.mk (bb_ BK354.out hb)
          have n6_ := Aside0.mk (below_step (by repeat (first | (with_reducible first | exact HB.out | apply ba_ | apply bn_ | apply bd_ | refine below_set ?_ GE336.out | refine below_set ?_ GE337.out | refine below_set ?_ GE354.out) | exact HB.out)) hb)
          clear HO342
          clear HO346
          clear BK336
          clear BK337
          clear BK354
          clear HB
          have HO342 := n0_
          have HO346 := n1_
          have HO352 := n2_
          have BK336 := n3_
          have BK337 := n4_
          have BK354 := n5_
          have HB := n6_
          clear n0_ n1_ n2_ n3_ n4_ n5_ n6_
          (try clear hb)
          (try clear hb2)
          (try clear hk)
          (try clear hi)
          (try clear ho0)
          refine hK.out _ _ ⟨(blk_cell BK336.out 0).trans rfl, (blk_cell BK336.out 1).trans rfl, (blk_cell BK337.out 0).trans rfl, (blk_cell BK337.out 1).trans rfl, (blk_cell BK337.out 2).trans rfl, (blk_cell BK337.out 3).trans rfl⟩ (fun hHeld => ?_)
          clear hK K
          refine norm_ (a' := ?_) ?_ ?_
          rotate_left
          ·
           show Act.put _ (some 28) _ = _
           simp only [fr_]
           rfl
          exact norm_ (by simp only [putAll, Act.put, List.setIfInBounds_toArray, List.set_cons_zero, List.set_cons_succ]) (hCont (.slice Ao63 t340.length co63, .slice Ao64 t344.length co64, v351, gb354) _ ⟨hHeld, (by (with_reducible repeat (first | apply Kd.S_alloc | apply Kd.S_drewN | apply Kd.S_drew)); exact Kd.S_mono HO342.out (fun _ hk => trivial)), (by (with_reducible repeat (first | apply Kd.R_alloc | apply Kd.R_drewN | apply Kd.R_drew)); exact Kd.R_mono HO346.out (fun _ hk => trivial)), (by (with_reducible repeat (first | apply Kd.S_alloc | apply Kd.S_drewN | apply Kd.S_drew)); exact Kd.S_mono HO352.out (fun _ hk => trivial)), (pb_ BK336.out), (pb_ BK337.out), (pb_ BK354.out), GW354.out, GE354.out, NB336_354.out, NB354_336.out, NB337_354.out, NB354_337.out, (by repeat (first | (with_reducible first | exact HB.out | apply ba_ | apply bn_ | apply bd_ | refine below_set ?_ GE336.out | refine below_set ?_ GE337.out | refine below_set ?_ GE354.out) | exact HB.out))⟩)
         skip
         refine box_step ?hg (N := 6) ?hd (cs := #[.slice none 0 0, .bool false]) (t := 39) ?hr ?_; (case hd => rfl); (case hg => rfl); (case hr => first | (go_simp; done) | (go_simp; rfl))
         intro gb354 hg w58 hbox hb
         have n0_ := Aside0.mk (bb_ BK336.out hb)
         have n1_ := Aside0.mk (bb_ BK337.out hb)
         have n2_ := Aside0.mk (below_step (by repeat (first | (with_reducible first | exact HB.out | apply ba_ | apply bn_ | apply bd_ | refine below_set ?_ GE336.out | refine below_set ?_ GE337.out) | exact HB.out)) hb)
         have n3_ := Aside0.mk (hbox)
         have n4_ := Aside0.mk ((by rw [hg]; exact (below_size (by repeat (first | (with_reducible first | exact HB.out | apply ba_ | apply bn_ | apply bd_ | refine below_set ?_ GE336.out | refine below_set ?_ GE337.out) | exact HB.out))) : w.heap.size ≤ gb354))
         have n5_ := Aside0.mk ((by rw [hg]; exact (below_size (by repeat (first | (with_reducible first | exact HB.out | apply ba_ | apply bn_ | apply bd_ | refine below_set ?_ GE336.out | refine below_set ?_ GE337.out) | exact HB.out))) : w.heap.size ≤ gb354))
         have n6_ := Aside0.mk (nl_ BK336.out hg)
         have n7_ := Aside0.mk (ng_ BK336.out hg)
         have n8_ := Aside0.mk (nl_ BK337.out hg)
         have n9_ := Aside0.mk (ng_ BK337.out hg)
         clear BK336
         clear BK337
         clear HB
         have BK336 := n0_
         have BK337 := n1_
         have HB := n2_
         have BK354 := n3_
         have GW354 := n4_
         have GE354 := n5_
         have NB336_354 := n6_
         have NB354_336 := n7_
         have NB337_354 := n8_
         have NB354_337 := n9_
         clear n0_ n1_ n2_ n3_ n4_ n5_ n6_ n7_ n8_ n9_
         clear hb hbox hg
         refine hK.out _ _ ⟨(blk_cell BK336.out 0).trans rfl, (blk_cell BK336.out 1).trans rfl, (blk_cell BK337.out 0).trans rfl, (blk_cell BK337.out 1).trans rfl, (blk_cell BK337.out 2).trans rfl, (blk_cell BK337.out 3).trans rfl⟩ (fun hHeld => ?_)
         clear hK K
         refine norm_ (a' := ?_) ?_ ?_
         rotate_left
         ·
          show Act.put _ (some 6) _ = _
          simp only [fr_]
          rfl
         refine one_ (i := 1) (N := some 25) #[t_,t_,t_,f_,f_,t_,f_] rfl rfl (by kernel_rfl) (by decide) (fun K hK => ?_)
         refine goes_ Try.func23 (by kernel_rfl) rfl #[.agg #[.slice A0_0 l0_0.length c0_0, .bool a0_1]] (by rfl) rfl rfl (by (try simp only [mp_]); first | done | rfl | (simp only [List.length_drop, List.length_take]; rfl)) ?_
         with_reducible refine (laws_toSub.calls k _ _ l0_0 a0_1 t340 t343 _ ?side1 ?side2 A19.out).mono ?_
         (case side1 => repeat (first | exact (Kd.C_below HR0_0.out HB.out) | (with_reducible first | refine ca_ ?_ _ | refine cn_ ?_ _ | refine cd_ ?_)))
         (case side2 => exact HC0_0.out)
         rintro e w59 ⟨v341, rfl, ho0, hb⟩
         refine ⟨_, rfl, ?_⟩
         obtain ⟨nz60, hz60⟩ := Kd.S_name ho0
         have n0_ := Aside0.mk (Kd.S_lower (Kd.S_gez hz60 ho0) (below_size (by repeat (first | (with_reducible first | exact HB.out | apply ba_ | apply bn_ | apply bd_ | refine below_set ?_ GE336.out | refine below_set ?_ GE337.out | refine below_set ?_ GE354.out) | exact HB.out))))
         have n1_ := Aside0.mk (bb_ BK336.out hb)
         have n2_ := Aside0.mk (bb_ BK337.out hb)
         have n3_ := Aside0.mk (bb_ BK354.out hb)
         have n4_ := Aside0.mk (below_step (by repeat (first | (with_reducible first | exact HB.out | apply ba_ | apply bn_ | apply bd_ | refine below_set ?_ GE336.out | refine below_set ?_ GE337.out | refine below_set ?_ GE354.out) | exact HB.out)) hb)
         clear BK336
         clear BK337
         clear BK354
         clear HB
         have HO342 := n0_
         have BK336 := n1_
         have BK337 := n2_
         have BK354 := n3_
         have HB := n4_
         clear n0_ n1_ n2_ n3_ n4_
         (try clear hb)
         (try clear hb2)
         (try clear hk)
         (try clear hi)
         (try clear ho0)
         refine hK.out _ _ ⟨(blk_cell BK336.out 0).trans rfl, (blk_cell BK336.out 1).trans rfl, (blk_cell BK337.out 0).trans rfl, (blk_cell BK337.out 1).trans rfl, (blk_cell BK337.out 2).trans rfl, (blk_cell BK337.out 3).trans rfl⟩ (fun hHeld => ?_)
         clear hK K
         refine norm_ (a' := ?_) ?_ ?_
         rotate_left
         ·
          show Act.put _ (some 25) _ = _
          simp only [fr_]
          rfl
         refine one_ (i := 3) (N := some 27) #[t_,t_,t_,t_,f_,t_,f_] rfl rfl (by kernel_rfl) (by decide) (fun K hK => ?_)
         refine goes_ Try.func24 (by kernel_rfl) rfl #[.agg #[.slice A1_0 l1_0.length c1_0, .int .i64 a1_1, .int .i64 a1_2, .string a1_3]] (by rfl) rfl rfl (by (try simp only [mp_]); first | done | rfl | (simp only [List.length_drop, List.length_take]; rfl)) ?_
         with_reducible refine (laws_toAlarm.calls k _ _ l1_0 a1_1 a1_2 a1_3 t344 t347 t348 t349 _ ?side1 ?side2 A20.out).mono ?_
         (case side1 => repeat (first | exact (Kd.C_below HR1_0.out HB.out) | (with_reducible first | refine ca_ ?_ _ | refine cn_ ?_ _ | refine cd_ ?_)))
         (case side2 => exact HC1_0.out)
         rintro e w61 ⟨v345, rfl, ho0, hb⟩
         refine ⟨_, rfl, ?_⟩
         obtain ⟨nz62, hz62⟩ := Kd.R_name ho0
         have n0_ := Aside0.mk (Kd.S_below (Kd.S_ltz hz62 (sp_ HO342.out)) hb)
         have n1_ := Aside0.mk (Kd.R_lower (Kd.R_gez hz62 ho0) (below_size (by repeat (first | (with_reducible first | exact HB.out | apply ba_ | apply bn_ | apply bd_ | refine below_set ?_ GE336.out | refine below_set ?_ GE337.out | refine below_set ?_ GE354.out) | exact HB.out))))
         have n2_ := Aside0.mk (bb_ BK336.out hb)
         have n3_ := Aside0.mk (bb_ BK337.out hb)
         have n4_ := Aside0.mk (bb_ BK354.out hb)
         have n5_ := Aside0.mk (below_step (by repeat (first | (with_reducible first | exact HB.out | apply ba_ | apply bn_ | apply bd_ | refine below_set ?_ GE336.out | refine below_set ?_ GE337.out | refine below_set ?_ GE354.out) | exact HB.out)) hb)
         clear HO342
         clear BK336
         clear BK337
         clear BK354
         clear HB
         have HO342 := n0_
         have HO346 := n1_
         have BK336 := n2_
         have BK337 := n3_
         have BK354 := n4_
         have HB := n5_
         clear n0_ n1_ n2_ n3_ n4_ n5_
         (try clear hb)
         (try clear hb2)
         (try clear hk)
         (try clear hi)
         (try clear ho0)
         obtain ⟨Ao63, co63, eo63⟩ := Kd.S_slice HO342.out
         (first | subst eo63 | (injection eo63 with f1_ f2_ f3_; have f4_ := f1_.symm; have f5_ := f3_.symm; clear f1_ f2_ f3_; subst f4_; subst f5_))
         obtain ⟨Ao64, co64, eo64⟩ := Kd.R_slice HO346.out
         (first | subst eo64 | (injection eo64 with f1_ f2_ f3_; have f4_ := f1_.symm; have f5_ := f3_.symm; clear f1_ f2_ f3_; subst f4_; subst f5_))
         refine hK.out _ _ ⟨(blk_cell BK336.out 0).trans rfl, (blk_cell BK336.out 1).trans rfl, (blk_cell BK337.out 0).trans rfl, (blk_cell BK337.out 1).trans rfl, (blk_cell BK337.out 2).trans rfl, (blk_cell BK337.out 3).trans rfl⟩ (fun hHeld => ?_)
         clear hK K
         refine norm_ (a' := ?_) ?_ ?_
         rotate_left
         ·
          show Act.put _ (some 27) _ = _
          simp only [fr_]
          rfl
         refine one_ (i := 4) (N := some 28) #[t_,t_,t_,t_,t_,t_,f_] rfl rfl (by kernel_rfl) (by decide) (fun K hK => ?_)
         refine goes_ Try.func22 (by kernel_rfl) rfl #[.agg #[.slice Ao63 t340.length co63, .bool t343], .agg #[.slice Ao64 t344.length co64, .int .i64 t347, .int .i64 t348, .string t349]] (by rfl) rfl rfl (by (try simp only [mp_]); first | done | rfl | (simp only [List.length_drop, List.length_take]; rfl)) ?_
         with_reducible refine (spec_Tell.calls k _ _ t340 t343 _ _ t344 t347 t348 t349 t350 t353 _ ?side1 ?side2 ?side3 ?side4 A21.out).mono ?_
         (case side1 => repeat (first | exact (Kd.S_reads' HO342.out).2.2 | (with_reducible first | refine ca_ ?_ _ | refine cn_ ?_ _ | refine cd_ ?_)))
         (case side2 => exact (Kd.S_reads' HO342.out).2.1)
         (case side3 => repeat (first | exact (Kd.R_reads' HO346.out).2.2 | (with_reducible first | refine ca_ ?_ _ | refine cn_ ?_ _ | refine cd_ ?_)))
         (case side4 => exact (Kd.R_reads' HO346.out).2.1)
         rintro e w65 ⟨v351, rfl, ho0, hb⟩
         refine ⟨_, rfl, ?_⟩
         obtain ⟨nz66, hz66⟩ := Kd.S_name ho0
         have n0_ := Aside0.mk (Kd.S_below (Kd.S_ltz hz66 (sp_ HO342.out)) hb)
         have n1_ := Aside0.mk (Kd.R_below (Kd.R_ltz hz66 (rp_ HO346.out)) hb)
         have n2_ := Aside0.mk (Kd.S_lower (Kd.S_gez hz66 ho0) (below_size (by repeat (first | (with_reducible first | exact HB.out | apply ba_ | apply bn_ | apply bd_ | refine below_set ?_ GE336.out | refine below_set ?_ GE337.out | refine below_set ?_ GE354.out) | exact HB.out))))
         have n3_ := Aside0.mk (bb_ BK336.out hb)
         have n4_ := Aside0.mk (bb_ BK337.out hb)
         have n5_ := Aside0.mk (bb_ BK354.out hb)
         have n6_ := Aside0.mk (below_step (by repeat (first | (with_reducible first | exact HB.out | apply ba_ | apply bn_ | apply bd_ | refine below_set ?_ GE336.out | refine below_set ?_ GE337.out | refine below_set ?_ GE354.out) | exact HB.out)) hb)
         clear HO342
         clear HO346
         clear BK336
         clear BK337
         clear BK354
         clear HB
         have HO342 := n0_
         have HO346 := n1_
         have HO352 := n2_
         have BK336 := n3_
         have BK337 := n4_
         have BK354 := n5_
         have HB := n6_
         clear n0_ n1_ n2_ n3_ n4_ n5_ n6_
         (try clear hb)
         (try clear hb2)
         (try clear hk)
         (try clear hi)
         (try clear ho0)
         refine hK.out _ _ ⟨(blk_cell BK336.out 0).trans rfl, (blk_cell BK336.out 1).trans rfl, (blk_cell BK337.out 0).trans rfl, (blk_cell BK337.out 1).trans rfl, (blk_cell BK337.out 2).trans rfl, (blk_cell BK337.out 3).trans rfl⟩ (fun hHeld => ?_)
         clear hK K
         refine norm_ (a' := ?_) ?_ ?_
         rotate_left
         ·
          show Act.put _ (some 28) _ = _
          simp only [fr_]
          rfl
         exact norm_ (by simp only [putAll, Act.put, List.setIfInBounds_toArray, List.set_cons_zero, List.set_cons_succ]) (hCont (.slice Ao63 t340.length co63, .slice Ao64 t344.length co64, v351, gb354) _ ⟨hHeld, (by (with_reducible repeat (first | apply Kd.S_alloc | apply Kd.S_drewN | apply Kd.S_drew)); exact Kd.S_mono HO342.out (fun _ hk => trivial)), (by (with_reducible repeat (first | apply Kd.R_alloc | apply Kd.R_drewN | apply Kd.R_drew)); exact Kd.R_mono HO346.out (fun _ hk => trivial)), (by (with_reducible repeat (first | apply Kd.S_alloc | apply Kd.S_drewN | apply Kd.S_drew)); exact Kd.S_mono HO352.out (fun _ hk => trivial)), (pb_ BK336.out), (pb_ BK337.out), (pb_ BK354.out), GW354.out, GE354.out, NB336_354.out, NB354_336.out, NB337_354.out, NB354_337.out, (by repeat (first | (with_reducible first | exact HB.out | apply ba_ | apply bn_ | apply bd_ | refine below_set ?_ GE336.out | refine below_set ?_ GE337.out | refine below_set ?_ GE354.out) | exact HB.out))⟩)
        rintro ⟨v341, v345, v351, gb354⟩ w67 ⟨hS_, h0_, h1_, h2_, h3_, h4_, h5_, h6_, h7_, h8_, h9_, h10_, h11_, h12_⟩
        have n0_ : Aside0 (Kd.S k44 44 w67 w.heap.size (fun _ => True) v341 t340) := ⟨h0_⟩
        have n1_ : Aside0 (Kd.R k164 164 w67 w.heap.size (fun _ => True) v345 t344) := ⟨h1_⟩
        have n2_ : Aside0 (Kd.S k44 44 w67 w.heap.size (fun _ => True) v351 t350) := ⟨h2_⟩
        have n3_ : Aside0 (w67.heap[gb336]? = some (.cells #[.slice A0_0 l0_0.length c0_0, .bool a0_1] 31 (0, 0))) := ⟨h3_⟩
        have n4_ : Aside0 (w67.heap[gb337]? = some (.cells #[.slice A1_0 l1_0.length c1_0, .int .i64 a1_1, .int .i64 a1_2, .string a1_3] 34 (0, 0))) := ⟨h4_⟩
        have n5_ : Aside0 (w67.heap[gb354]? = some (.cells #[.slice none 0 0, .bool false] 39 (0, 0))) := ⟨h5_⟩
        have n6_ : Aside0 (w.heap.size ≤ gb354) := ⟨h6_⟩
        have n7_ : Aside0 (w.heap.size ≤ gb354) := ⟨h7_⟩
        have n8_ : Aside0 (gb336 ≠ gb354) := ⟨h8_⟩
        have n9_ : Aside0 (gb354 ≠ gb336) := ⟨h9_⟩
        have n10_ : Aside0 (gb337 ≠ gb354) := ⟨h10_⟩
        have n11_ : Aside0 (gb354 ≠ gb337) := ⟨h11_⟩
        have n12_ : Aside0 (Below w.heap.size w w67) := ⟨h12_⟩
        clear BK336
        clear BK337
        clear HB
        clear h0_ h1_ h2_ h3_ h4_ h5_ h6_ h7_ h8_ h9_ h10_ h11_ h12_
        have HO342 := n0_
        have HO346 := n1_
        have HO352 := n2_
        have BK336 := n3_
        have BK337 := n4_
        have BK354 := n5_
        have GW354 := n6_
        have GE354 := n7_
        have NB336_354 := n8_
        have NB354_336 := n9_
        have NB337_354 := n10_
        have NB354_337 := n11_
        have HB := n12_
        clear n0_ n1_ n2_ n3_ n4_ n5_ n6_ n7_ n8_ n9_ n10_ n11_ n12_
        have hHeld : w67.cell? ⟨gb336, 0, none⟩ = some (.slice A0_0 l0_0.length c0_0) ∧ w67.cell? ⟨gb336, 1, none⟩ = some (.bool a0_1) ∧ w67.cell? ⟨gb337, 0, none⟩ = some (.slice A1_0 l1_0.length c1_0) ∧ w67.cell? ⟨gb337, 1, none⟩ = some (.int .i64 a1_1) ∧ w67.cell? ⟨gb337, 2, none⟩ = some (.int .i64 a1_2) ∧ w67.cell? ⟨gb337, 3, none⟩ = some (.string a1_3) := hS_
        obtain ⟨Ao68, co68, eo68⟩ := Kd.S_slice HO352.out
        (first | subst eo68 | (injection eo68 with f1_ f2_ f3_; have f4_ := f1_.symm; have f5_ := f3_.symm; clear f1_ f2_ f3_; subst f4_; subst f5_))
        refine norm_ (a' := ?_) ?_ ?_
        rotate_left
        ·
         simp only [putAll, Act.put, List.setIfInBounds_toArray, List.set_cons_zero, List.set_cons_succ]
         rfl
        refine one_ (i := 6) (N := none) #[t_,t_,t_,t_,t_,t_,t_] rfl rfl (by kernel_rfl) (by decide) (fun K hK => ?_)
        have hs69 : w67.cell? ⟨gb354, 0, none⟩ = some (.slice none 0 0) := (blk_cell BK354.out 0).trans rfl
        have hfs69 := blk_frozen BK354.out 0
        have hns69_0 := NB336_354.out
        have hns69_1 := NB337_354.out
        have hms69_0 := NB354_336.out
        have hms69_1 := NB354_337.out
        have hs70 : w67.cell? ⟨gb354, 1, none⟩ = some (.bool false) := (blk_cell BK354.out 1).trans rfl
        have hfs70 := blk_frozen BK354.out 1
        have hns70_0 := NB336_354.out
        have hns70_1 := NB337_354.out
        have hms70_0 := NB354_336.out
        have hms70_1 := NB354_337.out
        refine skip_ (w1 := ?_) (by rfl) rfl ?_ ?_
        rotate_left
        ·
         go_simp
         rfl
        refine hK.out _ _ ⟨((cell_far (p := ⟨gb354, _, none⟩) NB336_354.out _).trans (((cell_far (p := ⟨gb354, _, none⟩) NB336_354.out _).trans (hHeld.1)))), ((cell_far (p := ⟨gb354, _, none⟩) NB336_354.out _).trans (((cell_far (p := ⟨gb354, _, none⟩) NB336_354.out _).trans (hHeld.2.1)))), ((cell_far (p := ⟨gb354, _, none⟩) NB337_354.out _).trans (((cell_far (p := ⟨gb354, _, none⟩) NB337_354.out _).trans (hHeld.2.2.1)))), ((cell_far (p := ⟨gb354, _, none⟩) NB337_354.out _).trans (((cell_far (p := ⟨gb354, _, none⟩) NB337_354.out _).trans (hHeld.2.2.2.1)))), ((cell_far (p := ⟨gb354, _, none⟩) NB337_354.out _).trans (((cell_far (p := ⟨gb354, _, none⟩) NB337_354.out _).trans (hHeld.2.2.2.2.1)))), ((cell_far (p := ⟨gb354, _, none⟩) NB337_354.out _).trans (((cell_far (p := ⟨gb354, _, none⟩) NB337_354.out _).trans (hHeld.2.2.2.2.2))))⟩ (fun hHeld => ?_)
        clear hK K
        refine done_ (by kernel_rfl) ?_
        have hnb71 := NB336_354.out
        have hnc71 := NB354_336.out
        have hcz72_0 : w67.cell? ⟨gb336, 0, none⟩ = some (.slice A0_0 l0_0.length c0_0) := (blk_cell BK336.out 0).trans rfl
        have hcz72_1 : w67.cell? ⟨gb336, 1, none⟩ = some (.bool a0_1) := (blk_cell BK336.out 1).trans rfl
        have hfz72_0 := blk_frozen BK336.out 0
        have hfz72_1 := blk_frozen BK336.out 1
        try go_wp2_with (first | ((with_reducible refine gate_callee (f := 23) rfl ?_); refine goesL_ (some 30) rfl rfl Try.func23 (by kernel_rfl) rfl #[.agg #[.slice A0_0 l0_0.length c0_0, .bool a0_1]] rfl (by (try simp only [mp_]); first | done | rfl | (simp only [List.length_drop, List.length_take]; rfl)) ?_; (with_reducible refine (laws_toSub.calls k _ _ l0_0 a0_1 t355 t358 _ ?side1 ?side2 A22.out).mono ?_); (case side1 => exact Kd.C_below HR0_0.out (by repeat (first | (with_reducible first | exact HB.out | apply ba_ | apply bn_ | apply bd_ | refine below_set ?_ GE336.out | refine below_set ?_ GE337.out | refine below_set ?_ GE354.out) | exact HB.out))); (case side2 => exact HC0_0.out); rintro e w73 ⟨v356, rfl, ho0, hb⟩; refine ⟨_, rfl, ?_⟩; obtain ⟨nz74, hz74⟩ := Kd.S_name ho0; have n0_ := Aside0.mk (Kd.S_below (Kd.S_ltz hz74 (by (with_reducible repeat (first | apply Kd.S_alloc | apply Kd.S_drewN | apply Kd.S_drew)); exact (Kd.S_mono (Kd.S_far (p := ⟨gb354, 1, none⟩) (Kd.S_far (p := ⟨gb354, 0, none⟩) (Kd.S_types HO342.out BK354.out (by decide)) (fun _ hk => hk.2) (.slice Ao68 t350.length co68)) (fun _ hk => hk.2) (.bool t353)) (fun _ h_ => h_.1)))) hb); have n1_ := Aside0.mk (Kd.R_below (Kd.R_ltz hz74 (by (with_reducible repeat (first | apply Kd.R_alloc | apply Kd.R_drewN | apply Kd.R_drew)); exact (Kd.R_mono (Kd.R_far (p := ⟨gb354, 1, none⟩) (Kd.R_far (p := ⟨gb354, 0, none⟩) (Kd.R_types HO346.out BK354.out (by decide)) (fun _ hk => hk.2) (.slice Ao68 t350.length co68)) (fun _ hk => hk.2) (.bool t353)) (fun _ h_ => h_.1)))) hb); have n2_ := Aside0.mk (Kd.S_below (Kd.S_ltz hz74 (by (with_reducible repeat (first | apply Kd.S_alloc | apply Kd.S_drewN | apply Kd.S_drew)); exact (Kd.S_mono (Kd.S_far (p := ⟨gb354, 1, none⟩) (Kd.S_far (p := ⟨gb354, 0, none⟩) (Kd.S_types HO352.out BK354.out (by decide)) (fun _ hk => hk.2) (.slice Ao68 t350.length co68)) (fun _ hk => hk.2) (.bool t353)) (fun _ h_ => h_.1)))) hb); have n3_ := Aside0.mk (Kd.S_lower (Kd.S_gez hz74 ho0) (below_size (by repeat (first | (with_reducible first | exact HB.out | apply ba_ | apply bn_ | apply bd_ | refine below_set ?_ GE336.out | refine below_set ?_ GE337.out | refine below_set ?_ GE354.out) | exact HB.out)))); have n4_ := Aside0.mk (blk_below (g := gb336) (o := .cells #[.slice A0_0 l0_0.length c0_0, .bool a0_1] 31 (0, 0)) (by (with_reducible repeat (first | refine kn_ ?_ _ | refine kd_ ?_ | refine ka_ ?_ _)); refine blk_far ?_ NB336_354.out _; (with_reducible repeat (first | refine kn_ ?_ _ | refine kd_ ?_ | refine ka_ ?_ _)); refine blk_far ?_ NB336_354.out _; (with_reducible repeat (first | refine kn_ ?_ _ | refine kd_ ?_ | refine ka_ ?_ _)); exact BK336.out) hb); have n5_ := Aside0.mk (blk_below (g := gb337) (o := .cells #[.slice A1_0 l1_0.length c1_0, .int .i64 a1_1, .int .i64 a1_2, .string a1_3] 34 (0, 0)) (by (with_reducible repeat (first | refine kn_ ?_ _ | refine kd_ ?_ | refine ka_ ?_ _)); refine blk_far ?_ NB337_354.out _; (with_reducible repeat (first | refine kn_ ?_ _ | refine kd_ ?_ | refine ka_ ?_ _)); refine blk_far ?_ NB337_354.out _; (with_reducible repeat (first | refine kn_ ?_ _ | refine kd_ ?_ | refine ka_ ?_ _)); exact BK337.out) hb); have n6_ := Aside0.mk (blk_below (g := gb354) (o := .cells #[.slice Ao68 t350.length co68, .bool t353] 39 (0, 0)) (by (with_reducible repeat (first | refine kn_ ?_ _ | refine kd_ ?_ | refine ka_ ?_ _)); refine blk_put (cs := #[.slice Ao68 t350.length co68, .bool false]) ?_ 1 _ rfl; (with_reducible repeat (first | refine kn_ ?_ _ | refine kd_ ?_ | refine ka_ ?_ _)); refine blk_put (cs := #[.slice none 0 0, .bool false]) ?_ 0 _ rfl; (with_reducible repeat (first | refine kn_ ?_ _ | refine kd_ ?_ | refine ka_ ?_ _)); exact BK354.out) hb); have n7_ := Aside0.mk (below_step (by repeat (first | (with_reducible first | exact HB.out | apply ba_ | apply bn_ | apply bd_ | refine below_set ?_ GE336.out | refine below_set ?_ GE337.out | refine below_set ?_ GE354.out) | exact HB.out)) hb); clear HO342; clear HO346; clear HO352; clear BK336; clear BK337; clear BK354; clear HB; have HO342 := n0_; have HO346 := n1_; have HO352 := n2_; have HO357 := n3_; have BK336 := n4_; have BK337 := n5_; have BK354 := n6_; have HB := n7_; clear n0_ n1_ n2_ n3_ n4_ n5_ n6_ n7_; (try clear hb); (try clear hb2); (try clear hk); (try clear hi); (try clear ho0)) | ((with_reducible refine gate_dst (N := 7) rfl ?_); refine box_event ?hg (N := 7) ?hd (cs := #[.slice none 0 0, .bool false]) (t := 39) ?hr ?_; (case hd => rfl); (case hg => rfl); (case hr => first | (go_simp; done) | (go_simp; rfl)); intro gb359 hg w75 hbox hb; have n0_ := Aside0.mk (Kd.S_below (sp_ HO352.out) hb); have n1_ := Aside0.mk (Kd.S_below (sp_ HO357.out) hb); have n2_ := Aside0.mk (bb_ BK336.out hb); have n3_ := Aside0.mk (bb_ BK337.out hb); have n4_ := Aside0.mk (bb_ BK354.out hb); have n5_ := Aside0.mk (below_step (by repeat (first | (with_reducible first | exact HB.out | apply ba_ | apply bn_ | apply bd_ | refine below_set ?_ GE336.out | refine below_set ?_ GE337.out | refine below_set ?_ GE354.out) | exact HB.out)) hb); have n6_ := Aside0.mk (hbox); have n7_ := Aside0.mk ((by rw [hg]; exact (below_size (by repeat (first | (with_reducible first | exact HB.out | apply ba_ | apply bn_ | apply bd_ | refine below_set ?_ GE336.out | refine below_set ?_ GE337.out | refine below_set ?_ GE354.out) | exact HB.out))) : w.heap.size ≤ gb359)); have n8_ := n7_; have n9_ := Aside0.mk (nl_ BK336.out hg); have n10_ := Aside0.mk (ng_ BK336.out hg); have n11_ := Aside0.mk (nl_ BK337.out hg); have n12_ := Aside0.mk (ng_ BK337.out hg); have n13_ := Aside0.mk (nl_ BK354.out hg); have n14_ := Aside0.mk (ng_ BK354.out hg); clear HO352; clear HO357; clear BK336; clear BK337; clear BK354; clear HB; have HO352 := n0_; have HO357 := n1_; have BK336 := n2_; have BK337 := n3_; have BK354 := n4_; have HB := n5_; have BK359 := n6_; have GW359 := n7_; have GE359 := n8_; have NB336_359 := n9_; have NB359_336 := n10_; have NB337_359 := n11_; have NB359_337 := n12_; have NB354_359 := n13_; have NB359_354 := n14_; clear n0_ n1_ n2_ n3_ n4_ n5_ n6_ n7_ n8_ n9_ n10_ n11_ n12_ n13_ n14_; clear hb hbox hg; obtain ⟨Ao76, co76, eo76⟩ := Kd.S_slice HO357.out; subst eo76; have hnb77 := NB359_336.out; have hnc77 := NB336_359.out; have hnb78 := NB359_337.out; have hnc78 := NB337_359.out; have hnb79 := NB359_354.out; have hnc79 := NB354_359.out; have hcz80_0 : w75.cell? ⟨gb359, 0, none⟩ = some (.slice none 0 0) := (blk_cell BK359.out 0).trans rfl; have hcz80_1 : w75.cell? ⟨gb359, 1, none⟩ = some (.bool false) := (blk_cell BK359.out 1).trans rfl; have hfz80_0 := blk_frozen BK359.out 0; have hfz80_1 := blk_frozen BK359.out 1; have hnb81 := NB337_354.out; have hnc81 := NB354_337.out; have hcz82_0 : w75.cell? ⟨gb337, 0, none⟩ = some (.slice A1_0 l1_0.length c1_0) := (blk_cell BK337.out 0).trans rfl; have hcz82_1 : w75.cell? ⟨gb337, 1, none⟩ = some (.int .i64 a1_1) := (blk_cell BK337.out 1).trans rfl; have hcz82_2 : w75.cell? ⟨gb337, 2, none⟩ = some (.int .i64 a1_2) := (blk_cell BK337.out 2).trans rfl; have hcz82_3 : w75.cell? ⟨gb337, 3, none⟩ = some (.string a1_3) := (blk_cell BK337.out 3).trans rfl; have hfz82_0 := blk_frozen BK337.out 0; have hfz82_1 := blk_frozen BK337.out 1; have hfz82_2 := blk_frozen BK337.out 2; have hfz82_3 := blk_frozen BK337.out 3) | ((with_reducible refine gate_callee (f := 24) rfl ?_); refine goesL_ (some 32) rfl rfl Try.func24 (by kernel_rfl) rfl #[.agg #[.slice A1_0 l1_0.length c1_0, .int .i64 a1_1, .int .i64 a1_2, .string a1_3]] rfl (by (try simp only [mp_]); first | done | rfl | (simp only [List.length_drop, List.length_take]; rfl)) ?_; (with_reducible refine (laws_toAlarm.calls k _ _ l1_0 a1_1 a1_2 a1_3 t360 t363 t364 t365 _ ?side1 ?side2 A23.out).mono ?_); (case side1 => exact Kd.C_below HR1_0.out (by repeat (first | (with_reducible first | exact HB.out | apply ba_ | apply bn_ | apply bd_ | refine below_set ?_ GE336.out | refine below_set ?_ GE337.out | refine below_set ?_ GE354.out | refine below_set ?_ GE359.out) | exact HB.out))); (case side2 => exact HC1_0.out); rintro e w83 ⟨v361, rfl, ho0, hb⟩; refine ⟨_, rfl, ?_⟩; obtain ⟨nz84, hz84⟩ := Kd.R_name ho0; have n0_ := Aside0.mk (Kd.S_below (Kd.S_ltz hz84 (by (with_reducible repeat (first | apply Kd.S_alloc | apply Kd.S_drewN | apply Kd.S_drew)); exact (Kd.S_mono (Kd.S_far (p := ⟨gb359, 1, none⟩) (Kd.S_far (p := ⟨gb359, 0, none⟩) (Kd.S_types HO352.out BK359.out (by decide)) (fun _ hk => hk.2) (.slice Ao76 t355.length co76)) (fun _ hk => hk.2) (.bool t358)) (fun _ h_ => h_.1)))) hb); have n1_ := Aside0.mk (Kd.S_below (Kd.S_ltz hz84 (by (with_reducible repeat (first | apply Kd.S_alloc | apply Kd.S_drewN | apply Kd.S_drew)); exact (Kd.S_mono (Kd.S_far (p := ⟨gb359, 1, none⟩) (Kd.S_far (p := ⟨gb359, 0, none⟩) (Kd.S_types HO357.out BK359.out (by decide)) (fun _ hk => hk.2) (.slice Ao76 t355.length co76)) (fun _ hk => hk.2) (.bool t358)) (fun _ h_ => h_.1)))) hb); have n2_ := Aside0.mk (Kd.R_lower (Kd.R_gez hz84 ho0) (below_size (by repeat (first | (with_reducible first | exact HB.out | apply ba_ | apply bn_ | apply bd_ | refine below_set ?_ GE336.out | refine below_set ?_ GE337.out | refine below_set ?_ GE354.out | refine below_set ?_ GE359.out) | exact HB.out)))); have n3_ := Aside0.mk (blk_below (g := gb336) (o := .cells #[.slice A0_0 l0_0.length c0_0, .bool a0_1] 31 (0, 0)) (by (with_reducible repeat (first | refine kn_ ?_ _ | refine kd_ ?_ | refine ka_ ?_ _)); refine blk_far ?_ NB336_359.out _; (with_reducible repeat (first | refine kn_ ?_ _ | refine kd_ ?_ | refine ka_ ?_ _)); refine blk_far ?_ NB336_359.out _; (with_reducible repeat (first | refine kn_ ?_ _ | refine kd_ ?_ | refine ka_ ?_ _)); exact BK336.out) hb); have n4_ := Aside0.mk (blk_below (g := gb337) (o := .cells #[.slice A1_0 l1_0.length c1_0, .int .i64 a1_1, .int .i64 a1_2, .string a1_3] 34 (0, 0)) (by (with_reducible repeat (first | refine kn_ ?_ _ | refine kd_ ?_ | refine ka_ ?_ _)); refine blk_far ?_ NB337_359.out _; (with_reducible repeat (first | refine kn_ ?_ _ | refine kd_ ?_ | refine ka_ ?_ _)); refine blk_far ?_ NB337_359.out _; (with_reducible repeat (first | refine kn_ ?_ _ | refine kd_ ?_ | refine ka_ ?_ _)); exact BK337.out) hb); have n5_ := Aside0.mk (blk_below (g := gb354) (o := .cells #[.slice Ao68 t350.length co68, .bool t353] 39 (0, 0)) (by (with_reducible repeat (first | refine kn_ ?_ _ | refine kd_ ?_ | refine ka_ ?_ _)); refine blk_far ?_ NB354_359.out _; (with_reducible repeat (first | refine kn_ ?_ _ | refine kd_ ?_ | refine ka_ ?_ _)); refine blk_far ?_ NB354_359.out _; (with_reducible repeat (first | refine kn_ ?_ _ | refine kd_ ?_ | refine ka_ ?_ _)); exact BK354.out) hb); have n6_ := Aside0.mk (blk_below (g := gb359) (o := .cells #[.slice Ao76 t355.length co76, .bool t358] 39 (0, 0)) (by (with_reducible repeat (first | refine kn_ ?_ _ | refine kd_ ?_ | refine ka_ ?_ _)); refine blk_put (cs := #[.slice Ao76 t355.length co76, .bool false]) ?_ 1 _ rfl; (with_reducible repeat (first | refine kn_ ?_ _ | refine kd_ ?_ | refine ka_ ?_ _)); refine blk_put (cs := #[.slice none 0 0, .bool false]) ?_ 0 _ rfl; (with_reducible repeat (first | refine kn_ ?_ _ | refine kd_ ?_ | refine ka_ ?_ _)); exact BK359.out) hb); have n7_ := Aside0.mk (below_step (by repeat (first | (with_reducible first | exact HB.out | apply ba_ | apply bn_ | apply bd_ | refine below_set ?_ GE336.out | refine below_set ?_ GE337.out | refine below_set ?_ GE354.out | refine below_set ?_ GE359.out) | exact HB.out)) hb); clear HO352; clear HO357; clear BK336; clear BK337; clear BK354; clear BK359; clear HB; have HO352 := n0_; have HO357 := n1_; have HO362 := n2_; have BK336 := n3_; have BK337 := n4_; have BK354 := n5_; have BK359 := n6_; have HB := n7_; clear n0_ n1_ n2_ n3_ n4_ n5_ n6_ n7_; (try clear hb); (try clear hb2); (try clear hk); (try clear hi); (try clear ho0)) | ((with_reducible refine gate_dst (N := 8) rfl ?_); refine box_event ?hg (N := 8) ?hd (cs := #[.slice none 0 0, .int .i64 0, .int .i64 0, .string (⟨#[]⟩ : ByteArray)]) (t := 44) ?hr ?_; (case hd => rfl); (case hg => rfl); (case hr => first | (go_simp; done) | (go_simp; rfl)); intro gb366 hg w85 hbox hb; have n0_ := Aside0.mk (Kd.S_below (Kd.S_elderB (sp_ HO352.out) gb366 (Nat.le_of_eq hg.symm)) hb); have n1_ := Aside0.mk (Kd.S_below (Kd.S_elderB (sp_ HO357.out) gb366 (Nat.le_of_eq hg.symm)) hb); have n2_ := Aside0.mk (Kd.R_below (rp_ HO362.out) hb); have n3_ := Aside0.mk (bb_ BK336.out hb); have n4_ := Aside0.mk (bb_ BK337.out hb); have n5_ := Aside0.mk (bb_ BK354.out hb); have n6_ := Aside0.mk (bb_ BK359.out hb); have n7_ := Aside0.mk (below_step (by repeat (first | (with_reducible first | exact HB.out | apply ba_ | apply bn_ | apply bd_ | refine below_set ?_ GE336.out | refine below_set ?_ GE337.out | refine below_set ?_ GE354.out | refine below_set ?_ GE359.out) | exact HB.out)) hb); have n8_ := Aside0.mk (hbox); have n9_ := Aside0.mk ((by rw [hg]; exact (below_size (by repeat (first | (with_reducible first | exact HB.out | apply ba_ | apply bn_ | apply bd_ | refine below_set ?_ GE336.out | refine below_set ?_ GE337.out | refine below_set ?_ GE354.out | refine below_set ?_ GE359.out) | exact HB.out))) : w.heap.size ≤ gb366)); have n10_ := Aside0.mk ((by rw [hg]; exact (below_size (by repeat (first | (with_reducible first | exact HB.out | apply ba_ | apply bn_ | apply bd_ | refine below_set ?_ GE336.out | refine below_set ?_ GE337.out | refine below_set ?_ GE354.out | refine below_set ?_ GE359.out) | exact HB.out))) : w.heap.size ≤ gb366)); have n11_ := Aside0.mk (nl_ BK336.out hg); have n12_ := Aside0.mk (ng_ BK336.out hg); have n13_ := Aside0.mk (nl_ BK337.out hg); have n14_ := Aside0.mk (ng_ BK337.out hg); have n15_ := Aside0.mk (nl_ BK354.out hg); have n16_ := Aside0.mk (ng_ BK354.out hg); have n17_ := Aside0.mk (nl_ BK359.out hg); have n18_ := Aside0.mk (ng_ BK359.out hg); clear HO352; clear HO357; clear HO362; clear BK336; clear BK337; clear BK354; clear BK359; clear HB; have HO352 := n0_; have HO357 := n1_; have HO362 := n2_; have BK336 := n3_; have BK337 := n4_; have BK354 := n5_; have BK359 := n6_; have HB := n7_; have BK366 := n8_; have GW366 := n9_; have GE366 := n10_; have NB336_366 := n11_; have NB366_336 := n12_; have NB337_366 := n13_; have NB366_337 := n14_; have NB354_366 := n15_; have NB366_354 := n16_; have NB359_366 := n17_; have NB366_359 := n18_; clear n0_ n1_ n2_ n3_ n4_ n5_ n6_ n7_ n8_ n9_ n10_ n11_ n12_ n13_ n14_ n15_ n16_ n17_ n18_; clear hb hbox hg; obtain ⟨Ao86, co86, eo86⟩ := Kd.R_slice HO362.out; subst eo86; have hnb87 := NB366_336.out; have hnc87 := NB336_366.out; have hnb88 := NB366_337.out; have hnc88 := NB337_366.out; have hnb89 := NB366_354.out; have hnc89 := NB354_366.out; have hnb90 := NB366_359.out; have hnc90 := NB359_366.out; have hcz91_0 : w85.cell? ⟨gb366, 0, none⟩ = some (.slice none 0 0) := (blk_cell BK366.out 0).trans rfl; have hcz91_1 : w85.cell? ⟨gb366, 1, none⟩ = some (.int .i64 0) := (blk_cell BK366.out 1).trans rfl; have hcz91_2 : w85.cell? ⟨gb366, 2, none⟩ = some (.int .i64 0) := (blk_cell BK366.out 2).trans rfl; have hcz91_3 : w85.cell? ⟨gb366, 3, none⟩ = some (.string (⟨#[]⟩ : ByteArray)) := (blk_cell BK366.out 3).trans rfl; have hfz91_0 := blk_frozen BK366.out 0; have hfz91_1 := blk_frozen BK366.out 1; have hfz91_2 := blk_frozen BK366.out 2; have hfz91_3 := blk_frozen BK366.out 3; have hcz92_0 : w85.cell? ⟨gb359, 0, none⟩ = some (.slice Ao76 t355.length co76) := (blk_cell BK359.out 0).trans rfl; have hcz92_1 : w85.cell? ⟨gb359, 1, none⟩ = some (.bool t358) := (blk_cell BK359.out 1).trans rfl; have hfz92_0 := blk_frozen BK359.out 0; have hfz92_1 := blk_frozen BK359.out 1) | ((with_reducible refine gate_callee (f := 25) rfl ?_); refine goesL_ (some 35) rfl rfl Try.func25 (by kernel_rfl) rfl #[.agg #[.slice Ao76 t355.length co76, .bool t358], .agg #[.slice Ao86 t360.length co86, .int .i64 t363, .int .i64 t364, .string t365]] rfl (by (try simp only [mp_]); first | done | rfl | (simp only [List.length_drop, List.length_take]; rfl)) ?_; (with_reducible refine (impl_Tell.calls k _ _ t355 t358 _ _ t360 t363 t364 t365 t367 t370 _ ?side1 ?side2 ?side3 ?side4 A24.out).mono ?_); (case side1 => refine (Kd.S_reads' (e := 44) (base := w.heap.size) (ok := fun k_ => (((True ∧ nz74 ≤ k_) ∧ k_ < nz84) ∧ k_ ≠ gb366)) (n := t355.length) (c := co76) ?_).2.2; exact (by (with_reducible repeat (first | apply Kd.S_alloc | apply Kd.S_drewN | apply Kd.S_drew)); exact (Kd.S_mono (Kd.S_far (p := ⟨gb366, 3, none⟩) (Kd.S_far (p := ⟨gb366, 2, none⟩) (Kd.S_far (p := ⟨gb366, 1, none⟩) (Kd.S_far (p := ⟨gb366, 0, none⟩) (Kd.S_mono HO357.out (fun k_ hk => (⟨hk, hk.2⟩ : _ ∧ k_ ≠ gb366))) (fun _ hk => hk.2) (.slice Ao86 t360.length co86)) (fun _ hk => hk.2) (.int .i64 t363)) (fun _ hk => hk.2) (.int .i64 t364)) (fun _ hk => hk.2) (.string t365)) (fun _ h_ => h_.1)))); (case side2 => exact (Kd.S_reads' HO357.out).2.1); (case side3 => refine (Kd.R_reads' (e := 164) (base := w.heap.size) (ok := fun k_ => (True ∧ nz84 ≤ k_)) (n := t360.length) (c := co86) ?_).2.2; exact (by (with_reducible repeat (first | apply Kd.R_alloc | apply Kd.R_drewN | apply Kd.R_drew)); exact (Kd.R_mono (Kd.R_far (p := ⟨gb366, 3, none⟩) (Kd.R_far (p := ⟨gb366, 2, none⟩) (Kd.R_far (p := ⟨gb366, 1, none⟩) (Kd.R_far (p := ⟨gb366, 0, none⟩) (Kd.R_types HO362.out BK366.out (by decide)) (fun _ hk => hk.2) (.slice Ao86 t360.length co86)) (fun _ hk => hk.2) (.int .i64 t363)) (fun _ hk => hk.2) (.int .i64 t364)) (fun _ hk => hk.2) (.string t365)) (fun _ h_ => h_.1)))); (case side4 => exact (Kd.R_reads' HO362.out).2.1); rintro e w93 ⟨v368, rfl, ho0, hb⟩; refine ⟨_, rfl, ?_⟩; obtain ⟨nz94, hz94⟩ := Kd.S_name ho0; have n0_ := Aside0.mk (Kd.S_below (Kd.S_ltz hz94 (by (with_reducible repeat (first | apply Kd.S_alloc | apply Kd.S_drewN | apply Kd.S_drew)); exact (Kd.S_mono (Kd.S_far (p := ⟨gb366, 3, none⟩) (Kd.S_far (p := ⟨gb366, 2, none⟩) (Kd.S_far (p := ⟨gb366, 1, none⟩) (Kd.S_far (p := ⟨gb366, 0, none⟩) (Kd.S_mono HO352.out (fun k_ hk => (⟨hk, hk.2⟩ : _ ∧ k_ ≠ gb366))) (fun _ hk => hk.2) (.slice Ao86 t360.length co86)) (fun _ hk => hk.2) (.int .i64 t363)) (fun _ hk => hk.2) (.int .i64 t364)) (fun _ hk => hk.2) (.string t365)) (fun _ h_ => h_.1)))) hb); have n1_ := Aside0.mk (Kd.S_below (Kd.S_ltz hz94 (by (with_reducible repeat (first | apply Kd.S_alloc | apply Kd.S_drewN | apply Kd.S_drew)); exact (Kd.S_mono (Kd.S_far (p := ⟨gb366, 3, none⟩) (Kd.S_far (p := ⟨gb366, 2, none⟩) (Kd.S_far (p := ⟨gb366, 1, none⟩) (Kd.S_far (p := ⟨gb366, 0, none⟩) (Kd.S_mono HO357.out (fun k_ hk => (⟨hk, hk.2⟩ : _ ∧ k_ ≠ gb366))) (fun _ hk => hk.2) (.slice Ao86 t360.length co86)) (fun _ hk => hk.2) (.int .i64 t363)) (fun _ hk => hk.2) (.int .i64 t364)) (fun _ hk => hk.2) (.string t365)) (fun _ h_ => h_.1)))) hb); have n2_ := Aside0.mk (Kd.R_below (Kd.R_ltz hz94 (by (with_reducible repeat (first | apply Kd.R_alloc | apply Kd.R_drewN | apply Kd.R_drew)); exact (Kd.R_mono (Kd.R_far (p := ⟨gb366, 3, none⟩) (Kd.R_far (p := ⟨gb366, 2, none⟩) (Kd.R_far (p := ⟨gb366, 1, none⟩) (Kd.R_far (p := ⟨gb366, 0, none⟩) (Kd.R_types HO362.out BK366.out (by decide)) (fun _ hk => hk.2) (.slice Ao86 t360.length co86)) (fun _ hk => hk.2) (.int .i64 t363)) (fun _ hk => hk.2) (.int .i64 t364)) (fun _ hk => hk.2) (.string t365)) (fun _ h_ => h_.1)))) hb); have n3_ := Aside0.mk (Kd.S_lower (Kd.S_newB (Kd.S_gez hz94 ho0) (g := gb366) (o := .cells #[.slice Ao86 t360.length co86, .int .i64 t363, .int .i64 t364, .string t365] 44 (0, 0)) (by (with_reducible repeat (first | refine kn_ ?_ _ | refine kd_ ?_ | refine ka_ ?_ _)); refine blk_put (cs := #[.slice Ao86 t360.length co86, .int .i64 t363, .int .i64 t364, .string (⟨#[]⟩ : ByteArray)]) ?_ 3 _ rfl; (with_reducible repeat (first | refine kn_ ?_ _ | refine kd_ ?_ | refine ka_ ?_ _)); refine blk_put (cs := #[.slice Ao86 t360.length co86, .int .i64 t363, .int .i64 0, .string (⟨#[]⟩ : ByteArray)]) ?_ 2 _ rfl; (with_reducible repeat (first | refine kn_ ?_ _ | refine kd_ ?_ | refine ka_ ?_ _)); refine blk_put (cs := #[.slice Ao86 t360.length co86, .int .i64 0, .int .i64 0, .string (⟨#[]⟩ : ByteArray)]) ?_ 1 _ rfl; (with_reducible repeat (first | refine kn_ ?_ _ | refine kd_ ?_ | refine ka_ ?_ _)); refine blk_put (cs := #[.slice none 0 0, .int .i64 0, .int .i64 0, .string (⟨#[]⟩ : ByteArray)]) ?_ 0 _ rfl; (with_reducible repeat (first | refine kn_ ?_ _ | refine kd_ ?_ | refine ka_ ?_ _)); exact BK366.out)) (below_size (by repeat (first | (with_reducible first | exact HB.out | apply ba_ | apply bn_ | apply bd_ | refine below_set ?_ GE336.out | refine below_set ?_ GE337.out | refine below_set ?_ GE354.out | refine below_set ?_ GE359.out | refine below_set ?_ GE366.out) | exact HB.out)))); have n4_ := Aside0.mk (blk_below (g := gb336) (o := .cells #[.slice A0_0 l0_0.length c0_0, .bool a0_1] 31 (0, 0)) (by (with_reducible repeat (first | refine kn_ ?_ _ | refine kd_ ?_ | refine ka_ ?_ _)); refine blk_far ?_ NB336_366.out _; (with_reducible repeat (first | refine kn_ ?_ _ | refine kd_ ?_ | refine ka_ ?_ _)); refine blk_far ?_ NB336_366.out _; (with_reducible repeat (first | refine kn_ ?_ _ | refine kd_ ?_ | refine ka_ ?_ _)); refine blk_far ?_ NB336_366.out _; (with_reducible repeat (first | refine kn_ ?_ _ | refine kd_ ?_ | refine ka_ ?_ _)); refine blk_far ?_ NB336_366.out _; (with_reducible repeat (first | refine kn_ ?_ _ | refine kd_ ?_ | refine ka_ ?_ _)); exact BK336.out) hb); have n5_ := Aside0.mk (blk_below (g := gb337) (o := .cells #[.slice A1_0 l1_0.length c1_0, .int .i64 a1_1, .int .i64 a1_2, .string a1_3] 34 (0, 0)) (by (with_reducible repeat (first | refine kn_ ?_ _ | refine kd_ ?_ | refine ka_ ?_ _)); refine blk_far ?_ NB337_366.out _; (with_reducible repeat (first | refine kn_ ?_ _ | refine kd_ ?_ | refine ka_ ?_ _)); refine blk_far ?_ NB337_366.out _; (with_reducible repeat (first | refine kn_ ?_ _ | refine kd_ ?_ | refine ka_ ?_ _)); refine blk_far ?_ NB337_366.out _; (with_reducible repeat (first | refine kn_ ?_ _ | refine kd_ ?_ | refine ka_ ?_ _)); refine blk_far ?_ NB337_366.out _; (with_reducible repeat (first | refine kn_ ?_ _ | refine kd_ ?_ | refine ka_ ?_ _)); exact BK337.out) hb); have n6_ := Aside0.mk (blk_below (g := gb354) (o := .cells #[.slice Ao68 t350.length co68, .bool t353] 39 (0, 0)) (by (with_reducible repeat (first | refine kn_ ?_ _ | refine kd_ ?_ | refine ka_ ?_ _)); refine blk_far ?_ NB354_366.out _; (with_reducible repeat (first | refine kn_ ?_ _ | refine kd_ ?_ | refine ka_ ?_ _)); refine blk_far ?_ NB354_366.out _; (with_reducible repeat (first | refine kn_ ?_ _ | refine kd_ ?_ | refine ka_ ?_ _)); refine blk_far ?_ NB354_366.out _; (with_reducible repeat (first | refine kn_ ?_ _ | refine kd_ ?_ | refine ka_ ?_ _)); refine blk_far ?_ NB354_366.out _; (with_reducible repeat (first | refine kn_ ?_ _ | refine kd_ ?_ | refine ka_ ?_ _)); exact BK354.out) hb); have n7_ := Aside0.mk (blk_below (g := gb359) (o := .cells #[.slice Ao76 t355.length co76, .bool t358] 39 (0, 0)) (by (with_reducible repeat (first | refine kn_ ?_ _ | refine kd_ ?_ | refine ka_ ?_ _)); refine blk_far ?_ NB359_366.out _; (with_reducible repeat (first | refine kn_ ?_ _ | refine kd_ ?_ | refine ka_ ?_ _)); refine blk_far ?_ NB359_366.out _; (with_reducible repeat (first | refine kn_ ?_ _ | refine kd_ ?_ | refine ka_ ?_ _)); refine blk_far ?_ NB359_366.out _; (with_reducible repeat (first | refine kn_ ?_ _ | refine kd_ ?_ | refine ka_ ?_ _)); refine blk_far ?_ NB359_366.out _; (with_reducible repeat (first | refine kn_ ?_ _ | refine kd_ ?_ | refine ka_ ?_ _)); exact BK359.out) hb); have n8_ := Aside0.mk (blk_below (g := gb366) (o := .cells #[.slice Ao86 t360.length co86, .int .i64 t363, .int .i64 t364, .string t365] 44 (0, 0)) (by (with_reducible repeat (first | refine kn_ ?_ _ | refine kd_ ?_ | refine ka_ ?_ _)); refine blk_put (cs := #[.slice Ao86 t360.length co86, .int .i64 t363, .int .i64 t364, .string (⟨#[]⟩ : ByteArray)]) ?_ 3 _ rfl; (with_reducible repeat (first | refine kn_ ?_ _ | refine kd_ ?_ | refine ka_ ?_ _)); refine blk_put (cs := #[.slice Ao86 t360.length co86, .int .i64 t363, .int .i64 0, .string (⟨#[]⟩ : ByteArray)]) ?_ 2 _ rfl; (with_reducible repeat (first | refine kn_ ?_ _ | refine kd_ ?_ | refine ka_ ?_ _)); refine blk_put (cs := #[.slice Ao86 t360.length co86, .int .i64 0, .int .i64 0, .string (⟨#[]⟩ : ByteArray)]) ?_ 1 _ rfl; (with_reducible repeat (first | refine kn_ ?_ _ | refine kd_ ?_ | refine ka_ ?_ _)); refine blk_put (cs := #[.slice none 0 0, .int .i64 0, .int .i64 0, .string (⟨#[]⟩ : ByteArray)]) ?_ 0 _ rfl; (with_reducible repeat (first | refine kn_ ?_ _ | refine kd_ ?_ | refine ka_ ?_ _)); exact BK366.out) hb); have n9_ := Aside0.mk (below_step (by repeat (first | (with_reducible first | exact HB.out | apply ba_ | apply bn_ | apply bd_ | refine below_set ?_ GE336.out | refine below_set ?_ GE337.out | refine below_set ?_ GE354.out | refine below_set ?_ GE359.out | refine below_set ?_ GE366.out) | exact HB.out)) hb); clear HO352; clear HO357; clear HO362; clear BK336; clear BK337; clear BK354; clear BK359; clear BK366; clear HB; have HO352 := n0_; have HO357 := n1_; have HO362 := n2_; have HO369 := n3_; have BK336 := n4_; have BK337 := n5_; have BK354 := n6_; have BK359 := n7_; have BK366 := n8_; have HB := n9_; clear n0_ n1_ n2_ n3_ n4_ n5_ n6_ n7_ n8_ n9_; (try clear hb); (try clear hb2); (try clear hk); (try clear hi); (try clear ho0)) | ((with_reducible refine gate_dst (N := 9) rfl ?_); refine box_event ?hg (N := 9) ?hd (cs := #[.slice none 0 0, .bool false]) (t := 39) ?hr ?_; (case hd => rfl); (case hg => rfl); (case hr => first | (go_simp; done) | (go_simp; rfl)); intro gb371 hg w95 hbox hb; have n0_ := Aside0.mk (Kd.S_below (sp_ HO352.out) hb); have n1_ := Aside0.mk (Kd.S_below (sp_ HO357.out) hb); have n2_ := Aside0.mk (Kd.R_below (rp_ HO362.out) hb); have n3_ := Aside0.mk (Kd.S_below (sp_ HO369.out) hb); have n4_ := Aside0.mk (bb_ BK336.out hb); have n5_ := Aside0.mk (bb_ BK337.out hb); have n6_ := Aside0.mk (bb_ BK354.out hb); have n7_ := Aside0.mk (bb_ BK359.out hb); have n8_ := Aside0.mk (bb_ BK366.out hb); have n9_ := Aside0.mk (below_step (by repeat (first | (with_reducible first | exact HB.out | apply ba_ | apply bn_ | apply bd_ | refine below_set ?_ GE336.out | refine below_set ?_ GE337.out | refine below_set ?_ GE354.out | refine below_set ?_ GE359.out | refine below_set ?_ GE366.out) | exact HB.out)) hb); have n10_ := Aside0.mk (hbox); have n11_ := Aside0.mk ((by rw [hg]; exact (below_size (by repeat (first | (with_reducible first | exact HB.out | apply ba_ | apply bn_ | apply bd_ | refine below_set ?_ GE336.out | refine below_set ?_ GE337.out | refine below_set ?_ GE354.out | refine below_set ?_ GE359.out | refine below_set ?_ GE366.out) | exact HB.out))) : w.heap.size ≤ gb371)); have n12_ := Aside0.mk ((by rw [hg]; exact (below_size (by repeat (first | (with_reducible first | exact HB.out | apply ba_ | apply bn_ | apply bd_ | refine below_set ?_ GE336.out | refine below_set ?_ GE337.out | refine below_set ?_ GE354.out | refine below_set ?_ GE359.out | refine below_set ?_ GE366.out) | exact HB.out))) : w.heap.size ≤ gb371)); have n13_ := Aside0.mk (nl_ BK336.out hg); have n14_ := Aside0.mk (ng_ BK336.out hg); have n15_ := Aside0.mk (nl_ BK337.out hg); have n16_ := Aside0.mk (ng_ BK337.out hg); have n17_ := Aside0.mk (nl_ BK354.out hg); have n18_ := Aside0.mk (ng_ BK354.out hg); have n19_ := Aside0.mk (nl_ BK359.out hg); have n20_ := Aside0.mk (ng_ BK359.out hg); have n21_ := Aside0.mk (nl_ BK366.out hg); have n22_ := Aside0.mk (ng_ BK366.out hg); clear HO352; clear HO357; clear HO362; clear HO369; clear BK336; clear BK337; clear BK354; clear BK359; clear BK366; clear HB; have HO352 := n0_; have HO357 := n1_; have HO362 := n2_; have HO369 := n3_; have BK336 := n4_; have BK337 := n5_; have BK354 := n6_; have BK359 := n7_; have BK366 := n8_; have HB := n9_; have BK371 := n10_; have GW371 := n11_; have GE371 := n12_; have NB336_371 := n13_; have NB371_336 := n14_; have NB337_371 := n15_; have NB371_337 := n16_; have NB354_371 := n17_; have NB371_354 := n18_; have NB359_371 := n19_; have NB371_359 := n20_; have NB366_371 := n21_; have NB371_366 := n22_; clear n0_ n1_ n2_ n3_ n4_ n5_ n6_ n7_ n8_ n9_ n10_ n11_ n12_ n13_ n14_ n15_ n16_ n17_ n18_ n19_ n20_ n21_ n22_; clear hb hbox hg; obtain ⟨Ao96, co96, eo96⟩ := Kd.S_slice HO369.out; subst eo96; have hnb97 := NB371_336.out; have hnc97 := NB336_371.out; have hnb98 := NB371_337.out; have hnc98 := NB337_371.out; have hnb99 := NB371_354.out; have hnc99 := NB354_371.out; have hnb100 := NB371_359.out; have hnc100 := NB359_371.out; have hnb101 := NB371_366.out; have hnc101 := NB366_371.out; have hcz102_0 : w95.cell? ⟨gb371, 0, none⟩ = some (.slice none 0 0) := (blk_cell BK371.out 0).trans rfl; have hcz102_1 : w95.cell? ⟨gb371, 1, none⟩ = some (.bool false) := (blk_cell BK371.out 1).trans rfl; have hfz102_0 := blk_frozen BK371.out 0; have hfz102_1 := blk_frozen BK371.out 1; have hcz103_0 : w95.cell? ⟨gb354, 0, none⟩ = some (.slice Ao68 t350.length co68) := (blk_cell BK354.out 0).trans rfl; have hcz103_1 : w95.cell? ⟨gb354, 1, none⟩ = some (.bool t353) := (blk_cell BK354.out 1).trans rfl; have hfz103_0 := blk_frozen BK354.out 0; have hfz103_1 := blk_frozen BK354.out 1) | ((with_reducible refine gate_callee (f := 26) rfl ?_); refine goesL_ (some 38) rfl rfl Try.func26 (by kernel_rfl) rfl #[.agg #[.slice Ao96 t367.length co96, .bool t370], .agg #[.slice Ao68 t350.length co68, .bool t353]] rfl (by (try simp only [mp_]); first | done | rfl | (simp only [List.length_drop, List.length_take]; rfl)) ?_; (with_reducible refine (laws_eqSub.calls k _ _ t367 t370 _ _ t350 t353 true _ ?side1 ?side2 ?side3 ?side4 A25.out).mono ?_); (case side1 => refine (Kd.S_reads' (e := 44) (base := w.heap.size) (ok := fun k_ => ((True ∧ nz94 ≤ k_) ∧ k_ ≠ gb366)) (n := t367.length) (c := co96) ?_).2.2; exact (by (with_reducible repeat (first | apply Kd.S_alloc | apply Kd.S_drewN | apply Kd.S_drew)); exact (Kd.S_mono (Kd.S_far (p := ⟨gb371, 1, none⟩) (Kd.S_far (p := ⟨gb371, 0, none⟩) (Kd.S_types HO369.out BK371.out (by decide)) (fun _ hk => hk.2) (.slice Ao96 t367.length co96)) (fun _ hk => hk.2) (.bool t370)) (fun _ h_ => h_.1)))); (case side2 => exact (Kd.S_reads' HO369.out).2.1); (case side3 => refine (Kd.S_reads' (e := 44) (base := w.heap.size) (ok := fun k_ => ((((True ∧ k_ < nz74) ∧ k_ < nz84) ∧ k_ ≠ gb366) ∧ k_ < nz94)) (n := t350.length) (c := co68) ?_).2.2; exact (by (with_reducible repeat (first | apply Kd.S_alloc | apply Kd.S_drewN | apply Kd.S_drew)); exact (Kd.S_mono (Kd.S_far (p := ⟨gb371, 1, none⟩) (Kd.S_far (p := ⟨gb371, 0, none⟩) (Kd.S_types HO352.out BK371.out (by decide)) (fun _ hk => hk.2) (.slice Ao96 t367.length co96)) (fun _ hk => hk.2) (.bool t370)) (fun _ h_ => h_.1)))); (case side4 => exact (Kd.S_reads' HO352.out).2.1); rintro e w104 ⟨rfl, hb⟩; refine ⟨_, rfl, ?_⟩; have n0_ := Aside0.mk (Kd.S_below (by (with_reducible repeat (first | apply Kd.S_alloc | apply Kd.S_drewN | apply Kd.S_drew)); exact (Kd.S_mono (Kd.S_far (p := ⟨gb371, 1, none⟩) (Kd.S_far (p := ⟨gb371, 0, none⟩) (Kd.S_types HO352.out BK371.out (by decide)) (fun _ hk => hk.2) (.slice Ao96 t367.length co96)) (fun _ hk => hk.2) (.bool t370)) (fun _ h_ => h_.1))) hb); have n1_ := Aside0.mk (Kd.S_below (by (with_reducible repeat (first | apply Kd.S_alloc | apply Kd.S_drewN | apply Kd.S_drew)); exact (Kd.S_mono (Kd.S_far (p := ⟨gb371, 1, none⟩) (Kd.S_far (p := ⟨gb371, 0, none⟩) (Kd.S_types HO357.out BK371.out (by decide)) (fun _ hk => hk.2) (.slice Ao96 t367.length co96)) (fun _ hk => hk.2) (.bool t370)) (fun _ h_ => h_.1))) hb); have n2_ := Aside0.mk (Kd.R_below (by (with_reducible repeat (first | apply Kd.R_alloc | apply Kd.R_drewN | apply Kd.R_drew)); exact (Kd.R_mono (Kd.R_far (p := ⟨gb371, 1, none⟩) (Kd.R_far (p := ⟨gb371, 0, none⟩) (Kd.R_types HO362.out BK371.out (by decide)) (fun _ hk => hk.2) (.slice Ao96 t367.length co96)) (fun _ hk => hk.2) (.bool t370)) (fun _ h_ => h_.1))) hb); have n3_ := Aside0.mk (Kd.S_below (by (with_reducible repeat (first | apply Kd.S_alloc | apply Kd.S_drewN | apply Kd.S_drew)); exact (Kd.S_mono (Kd.S_far (p := ⟨gb371, 1, none⟩) (Kd.S_far (p := ⟨gb371, 0, none⟩) (Kd.S_types HO369.out BK371.out (by decide)) (fun _ hk => hk.2) (.slice Ao96 t367.length co96)) (fun _ hk => hk.2) (.bool t370)) (fun _ h_ => h_.1))) hb); have n4_ := Aside0.mk (blk_below (g := gb336) (o := .cells #[.slice A0_0 l0_0.length c0_0, .bool a0_1] 31 (0, 0)) (by (with_reducible repeat (first | refine kn_ ?_ _ | refine kd_ ?_ | refine ka_ ?_ _)); refine blk_far ?_ NB336_371.out _; (with_reducible repeat (first | refine kn_ ?_ _ | refine kd_ ?_ | refine ka_ ?_ _)); refine blk_far ?_ NB336_371.out _; (with_reducible repeat (first | refine kn_ ?_ _ | refine kd_ ?_ | refine ka_ ?_ _)); exact BK336.out) hb); have n5_ := Aside0.mk (blk_below (g := gb337) (o := .cells #[.slice A1_0 l1_0.length c1_0, .int .i64 a1_1, .int .i64 a1_2, .string a1_3] 34 (0, 0)) (by (with_reducible repeat (first | refine kn_ ?_ _ | refine kd_ ?_ | refine ka_ ?_ _)); refine blk_far ?_ NB337_371.out _; (with_reducible repeat (first | refine kn_ ?_ _ | refine kd_ ?_ | refine ka_ ?_ _)); refine blk_far ?_ NB337_371.out _; (with_reducible repeat (first | refine kn_ ?_ _ | refine kd_ ?_ | refine ka_ ?_ _)); exact BK337.out) hb); have n6_ := Aside0.mk (blk_below (g := gb354) (o := .cells #[.slice Ao68 t350.length co68, .bool t353] 39 (0, 0)) (by (with_reducible repeat (first | refine kn_ ?_ _ | refine kd_ ?_ | refine ka_ ?_ _)); refine blk_far ?_ NB354_371.out _; (with_reducible repeat (first | refine kn_ ?_ _ | refine kd_ ?_ | refine ka_ ?_ _)); refine blk_far ?_ NB354_371.out _; (with_reducible repeat (first | refine kn_ ?_ _ | refine kd_ ?_ | refine ka_ ?_ _)); exact BK354.out) hb); have n7_ := Aside0.mk (blk_below (g := gb359) (o := .cells #[.slice Ao76 t355.length co76, .bool t358] 39 (0, 0)) (by (with_reducible repeat (first | refine kn_ ?_ _ | refine kd_ ?_ | refine ka_ ?_ _)); refine blk_far ?_ NB359_371.out _; (with_reducible repeat (first | refine kn_ ?_ _ | refine kd_ ?_ | refine ka_ ?_ _)); refine blk_far ?_ NB359_371.out _; (with_reducible repeat (first | refine kn_ ?_ _ | refine kd_ ?_ | refine ka_ ?_ _)); exact BK359.out) hb); have n8_ := Aside0.mk (blk_below (g := gb366) (o := .cells #[.slice Ao86 t360.length co86, .int .i64 t363, .int .i64 t364, .string t365] 44 (0, 0)) (by (with_reducible repeat (first | refine kn_ ?_ _ | refine kd_ ?_ | refine ka_ ?_ _)); refine blk_far ?_ NB366_371.out _; (with_reducible repeat (first | refine kn_ ?_ _ | refine kd_ ?_ | refine ka_ ?_ _)); refine blk_far ?_ NB366_371.out _; (with_reducible repeat (first | refine kn_ ?_ _ | refine kd_ ?_ | refine ka_ ?_ _)); exact BK366.out) hb); have n9_ := Aside0.mk (blk_below (g := gb371) (o := .cells #[.slice Ao96 t367.length co96, .bool t370] 39 (0, 0)) (by (with_reducible repeat (first | refine kn_ ?_ _ | refine kd_ ?_ | refine ka_ ?_ _)); refine blk_put (cs := #[.slice Ao96 t367.length co96, .bool false]) ?_ 1 _ rfl; (with_reducible repeat (first | refine kn_ ?_ _ | refine kd_ ?_ | refine ka_ ?_ _)); refine blk_put (cs := #[.slice none 0 0, .bool false]) ?_ 0 _ rfl; (with_reducible repeat (first | refine kn_ ?_ _ | refine kd_ ?_ | refine ka_ ?_ _)); exact BK371.out) hb); have n10_ := Aside0.mk (below_step (by repeat (first | (with_reducible first | exact HB.out | apply ba_ | apply bn_ | apply bd_ | refine below_set ?_ GE336.out | refine below_set ?_ GE337.out | refine below_set ?_ GE354.out | refine below_set ?_ GE359.out | refine below_set ?_ GE366.out | refine below_set ?_ GE371.out) | exact HB.out)) hb); clear HO352; clear HO357; clear HO362; clear HO369; clear BK336; clear BK337; clear BK354; clear BK359; clear BK366; clear BK371; clear HB; have HO352 := n0_; have HO357 := n1_; have HO362 := n2_; have HO369 := n3_; have BK336 := n4_; have BK337 := n5_; have BK354 := n6_; have BK359 := n7_; have BK366 := n8_; have BK371 := n9_; have HB := n10_; clear n0_ n1_ n2_ n3_ n4_ n5_ n6_ n7_ n8_ n9_ n10_; (try clear hb); (try clear hb2); (try clear hk); (try clear hi)))
        have n0_ := Aside0.mk (Kd.S_drew HO352.out)
        have n1_ := Aside0.mk (Kd.S_drew HO357.out)
        have n2_ := Aside0.mk (Kd.R_drew HO362.out)
        have n3_ := Aside0.mk (Kd.S_drew HO369.out)
        have n4_ := Aside0.mk (blk_drew BK336.out)
        have n5_ := Aside0.mk (blk_drew BK337.out)
        have n6_ := Aside0.mk (blk_drew BK354.out)
        have n7_ := Aside0.mk (blk_drew BK359.out)
        have n8_ := Aside0.mk (blk_drew BK366.out)
        have n9_ := Aside0.mk (blk_drew BK371.out)
        have n10_ := Aside0.mk (bd_ HB.out)
        clear HO352
        clear HO357
        clear HO362
        clear HO369
        clear BK336
        clear BK337
        clear BK354
        clear BK359
        clear BK366
        clear BK371
        clear HB
        have HO352 := n0_
        have HO357 := n1_
        have HO362 := n2_
        have HO369 := n3_
        have BK336 := n4_
        have BK337 := n5_
        have BK354 := n6_
        have BK359 := n7_
        have BK366 := n8_
        have BK371 := n9_
        have HB := n10_
        clear n0_ n1_ n2_ n3_ n4_ n5_ n6_ n7_ n8_ n9_ n10_
        refine start_ (n := 5) (S := fun w' => w'.cell? ⟨gb359, 0, none⟩ = some (.slice Ao76 t355.length co76) ∧ w'.cell? ⟨gb359, 1, none⟩ = some (.bool t358) ∧ w'.cell? ⟨gb336, 0, none⟩ = some (.slice A0_0 l0_0.length c0_0) ∧ w'.cell? ⟨gb336, 1, none⟩ = some (.bool a0_1)) (ds := []) #[f_,f_,f_,f_,f_] (by kernel_rfl) rfl rfl ⟨(blk_cell BK359.out 0).trans rfl, (blk_cell BK359.out 1).trans rfl, (blk_cell BK336.out 0).trans rfl, (blk_cell BK336.out 1).trans rfl⟩ (fun hHeld => ?_)
        generalize w104.drew = w105 at HO352 HO357 HO362 HO369 BK336 BK337 BK354 BK359 BK366 BK371 HB hHeld ⊢
        refine take_ (i := 0) (N := some 40) (v := ?_) (a' := ?_) #[t_,f_,f_,f_,f_] rfl rfl (by kernel_rfl) (fun _ _ _ h => h) (Or.inl ⟨by rfl, ?_⟩) hHeld ?_ ?_
        rotate_left
        ·
         rintro w' ⟨s0, s1, s2, s3⟩
         go_simp
         with_reducible rfl
        rotate_left
        ·
         simp only [fr_]
         rfl
        refine take_ (i := 1) (N := some 41) (v := ?_) (a' := ?_) #[t_,t_,f_,f_,f_] rfl rfl (by kernel_rfl) (fun _ _ _ h => h) (Or.inl ⟨by rfl, ?_⟩) hHeld ?_ ?_
        rotate_left
        ·
         rintro w' ⟨s0, s1, s2, s3⟩
         go_simp
         with_reducible rfl
        rotate_left
        ·
         simp only [fr_]
         rfl
        refine one_ (i := 2) (N := some 42) #[t_,t_,t_,f_,f_] rfl rfl (by kernel_rfl) (by decide) (fun K hK => ?_)
        refine goes_ Try.func23 (by kernel_rfl) rfl #[.agg #[.slice A0_0 l0_0.length c0_0, .bool a0_1]] (by rfl) rfl rfl (by (try simp only [mp_]); first | done | rfl | (simp only [List.length_drop, List.length_take]; rfl)) ?_
        with_reducible refine (laws_toSub.calls k _ _ l0_0 a0_1 t373 t376 _ ?side1 ?side2 A27.out).mono ?_
        (case side1 => repeat (first | exact (Kd.C_below HR0_0.out HB.out) | (with_reducible first | refine ca_ ?_ _ | refine cn_ ?_ _ | refine cd_ ?_)))
        (case side2 => exact HC0_0.out)
        rintro e w106 ⟨v374, rfl, ho0, hb⟩
        refine ⟨_, rfl, ?_⟩
        obtain ⟨nz107, hz107⟩ := Kd.S_name ho0
        have n0_ := Aside0.mk (Kd.S_below (Kd.S_ltz hz107 (sp_ HO352.out)) hb)
        have n1_ := Aside0.mk (Kd.S_below (Kd.S_ltz hz107 (sp_ HO357.out)) hb)
        have n2_ := Aside0.mk (Kd.R_below (Kd.R_ltz hz107 (rp_ HO362.out)) hb)
        have n3_ := Aside0.mk (Kd.S_below (Kd.S_ltz hz107 (sp_ HO369.out)) hb)
        have n4_ := Aside0.mk (Kd.S_lower (Kd.S_newB (Kd.S_gez hz107 ho0) (g := gb366) (o := .cells #[.slice Ao86 t360.length co86, .int .i64 t363, .int .i64 t364, .string t365] 44 (0, 0)) (pb_ BK366.out)) (below_size (by repeat (first | (with_reducible first | exact HB.out | apply ba_ | apply bn_ | apply bd_ | refine below_set ?_ GE336.out | refine below_set ?_ GE337.out | refine below_set ?_ GE354.out | refine below_set ?_ GE359.out | refine below_set ?_ GE366.out | refine below_set ?_ GE371.out) | exact HB.out))))
        have n5_ := Aside0.mk (bb_ BK336.out hb)
        have n6_ := Aside0.mk (bb_ BK337.out hb)
        have n7_ := Aside0.mk (bb_ BK354.out hb)
        have n8_ := Aside0.mk (bb_ BK359.out hb)
        have n9_ := Aside0.mk (bb_ BK366.out hb)
        have n10_ := Aside0.mk (bb_ BK371.out hb)
        have n11_ := Aside0.mk (below_step (by repeat (first | (with_reducible first | exact HB.out | apply ba_ | apply bn_ | apply bd_ | refine below_set ?_ GE336.out | refine below_set ?_ GE337.out | refine below_set ?_ GE354.out | refine below_set ?_ GE359.out | refine below_set ?_ GE366.out | refine below_set ?_ GE371.out) | exact HB.out)) hb)
        clear HO352
        clear HO357
        clear HO362
        clear HO369
        clear BK336
        clear BK337
        clear BK354
        clear BK359
        clear BK366
        clear BK371
        clear HB
        have HO352 := n0_
        have HO357 := n1_
        have HO362 := n2_
        have HO369 := n3_
        have HO375 := n4_
        have BK336 := n5_
        have BK337 := n6_
        have BK354 := n7_
        have BK359 := n8_
        have BK366 := n9_
        have BK371 := n10_
        have HB := n11_
        clear n0_ n1_ n2_ n3_ n4_ n5_ n6_ n7_ n8_ n9_ n10_ n11_
        (try clear hb)
        (try clear hb2)
        (try clear hk)
        (try clear hi)
        (try clear ho0)
        obtain ⟨Ao108, co108, eo108⟩ := Kd.S_slice HO375.out
        (first | subst eo108 | (injection eo108 with f1_ f2_ f3_; have f4_ := f1_.symm; have f5_ := f3_.symm; clear f1_ f2_ f3_; subst f4_; subst f5_))
        refine hK.out _ _ ⟨(blk_cell BK359.out 0).trans rfl, (blk_cell BK359.out 1).trans rfl, (blk_cell BK336.out 0).trans rfl, (blk_cell BK336.out 1).trans rfl⟩ (fun hHeld => ?_)
        clear hK K
        refine norm_ (a' := ?_) ?_ ?_
        rotate_left
        ·
         show Act.put _ (some 42) _ = _
         simp only [fr_]
         rfl
        refine one_ (i := 3) (N := some 43) #[t_,t_,t_,t_,f_] rfl rfl (by kernel_rfl) (by decide) (fun K hK => ?_)
        refine goes_ Try.func26 (by kernel_rfl) rfl #[.agg #[.slice Ao76 t355.length co76, .bool t358], .agg #[.slice Ao108 t373.length co108, .bool t376]] (by rfl) rfl rfl (by (try simp only [mp_]); first | done | rfl | (simp only [List.length_drop, List.length_take]; rfl)) ?_
        with_reducible refine (laws_eqSub.calls k _ _ t355 t358 _ _ t373 t376 true _ ?side1 ?side2 ?side3 ?side4 A28.out).mono ?_
        (case side1 => repeat (first | exact (Kd.S_reads' HO357.out).2.2 | (with_reducible first | refine ca_ ?_ _ | refine cn_ ?_ _ | refine cd_ ?_)))
        (case side2 => exact (Kd.S_reads' HO357.out).2.1)
        (case side3 => repeat (first | exact (Kd.S_reads' HO375.out).2.2 | (with_reducible first | refine ca_ ?_ _ | refine cn_ ?_ _ | refine cd_ ?_)))
        (case side4 => exact (Kd.S_reads' HO375.out).2.1)
        rintro e w109 ⟨rfl, hb⟩
        refine ⟨_, rfl, ?_⟩
        have n0_ := Aside0.mk (Kd.S_below (sp_ HO352.out) hb)
        have n1_ := Aside0.mk (Kd.S_below (sp_ HO357.out) hb)
        have n2_ := Aside0.mk (Kd.R_below (rp_ HO362.out) hb)
        have n3_ := Aside0.mk (Kd.S_below (sp_ HO369.out) hb)
        have n4_ := Aside0.mk (Kd.S_below (sp_ HO375.out) hb)
        have n5_ := Aside0.mk (bb_ BK336.out hb)
        have n6_ := Aside0.mk (bb_ BK337.out hb)
        have n7_ := Aside0.mk (bb_ BK354.out hb)
        have n8_ := Aside0.mk (bb_ BK359.out hb)
        have n9_ := Aside0.mk (bb_ BK366.out hb)
        have n10_ := Aside0.mk (bb_ BK371.out hb)
        have n11_ := Aside0.mk (below_step (by repeat (first | (with_reducible first | exact HB.out | apply ba_ | apply bn_ | apply bd_ | refine below_set ?_ GE336.out | refine below_set ?_ GE337.out | refine below_set ?_ GE354.out | refine below_set ?_ GE359.out | refine below_set ?_ GE366.out | refine below_set ?_ GE371.out) | exact HB.out)) hb)
        clear HO352
        clear HO357
        clear HO362
        clear HO369
        clear HO375
        clear BK336
        clear BK337
        clear BK354
        clear BK359
        clear BK366
        clear BK371
        clear HB
        have HO352 := n0_
        have HO357 := n1_
        have HO362 := n2_
        have HO369 := n3_
        have HO375 := n4_
        have BK336 := n5_
        have BK337 := n6_
        have BK354 := n7_
        have BK359 := n8_
        have BK366 := n9_
        have BK371 := n10_
        have HB := n11_
        clear n0_ n1_ n2_ n3_ n4_ n5_ n6_ n7_ n8_ n9_ n10_ n11_
        (try clear hb)
        (try clear hb2)
        (try clear hk)
        (try clear hi)
        refine hK.out _ _ ⟨(blk_cell BK359.out 0).trans rfl, (blk_cell BK359.out 1).trans rfl, (blk_cell BK336.out 0).trans rfl, (blk_cell BK336.out 1).trans rfl⟩ (fun hHeld => ?_)
        clear hK K
        refine norm_ (a' := ?_) ?_ ?_
        rotate_left
        ·
         show Act.put _ (some 43) _ = _
         simp only [fr_]
         rfl
        refine pure_ (i := 4) (N := some 44) (v := ?_) (a' := ?_) #[t_,t_,t_,t_,t_] rfl rfl (by kernel_rfl) (fun _ _ _ h => h) (Or.inl ⟨by rfl, ?_⟩) ?_ ?_
        rotate_left
        ·
         intro w'
         go_simp
         with_reducible rfl
        rotate_left
        ·
         simp only [fr_]
         rfl
        refine done_ (by kernel_rfl) ?_
        try go_wp2
        have n0_ := Aside0.mk (Kd.S_drew HO352.out)
        have n1_ := Aside0.mk (Kd.S_drew HO357.out)
        have n2_ := Aside0.mk (Kd.R_drew HO362.out)
        have n3_ := Aside0.mk (Kd.S_drew HO369.out)
        have n4_ := Aside0.mk (blk_drew BK336.out)
        have n5_ := Aside0.mk (blk_drew BK337.out)
        have n6_ := Aside0.mk (blk_drew BK354.out)
        have n7_ := Aside0.mk (blk_drew BK359.out)
        have n8_ := Aside0.mk (blk_drew BK366.out)
        have n9_ := Aside0.mk (blk_drew BK371.out)
        have n10_ := Aside0.mk (bd_ HB.out)
        clear HO352
        clear HO357
        clear HO362
        clear HO369
        clear BK336
        clear BK337
        clear BK354
        clear BK359
        clear BK366
        clear BK371
        clear HB
        have HO352 := n0_
        have HO357 := n1_
        have HO362 := n2_
        have HO369 := n3_
        have BK336 := n4_
        have BK337 := n5_
        have BK354 := n6_
        have BK359 := n7_
        have BK366 := n8_
        have BK371 := n9_
        have HB := n10_
        clear n0_ n1_ n2_ n3_ n4_ n5_ n6_ n7_ n8_ n9_ n10_
        refine start_ (n := 5) (S := fun w' => w'.cell? ⟨gb366, 0, none⟩ = some (.slice Ao86 t360.length co86) ∧ w'.cell? ⟨gb366, 1, none⟩ = some (.int .i64 t363) ∧ w'.cell? ⟨gb366, 2, none⟩ = some (.int .i64 t364) ∧ w'.cell? ⟨gb366, 3, none⟩ = some (.string t365) ∧ w'.cell? ⟨gb337, 0, none⟩ = some (.slice A1_0 l1_0.length c1_0) ∧ w'.cell? ⟨gb337, 1, none⟩ = some (.int .i64 a1_1) ∧ w'.cell? ⟨gb337, 2, none⟩ = some (.int .i64 a1_2) ∧ w'.cell? ⟨gb337, 3, none⟩ = some (.string a1_3)) (ds := []) #[f_,f_,f_,f_,f_] (by kernel_rfl) rfl rfl ⟨(blk_cell BK366.out 0).trans rfl, (blk_cell BK366.out 1).trans rfl, (blk_cell BK366.out 2).trans rfl, (blk_cell BK366.out 3).trans rfl, (blk_cell BK337.out 0).trans rfl, (blk_cell BK337.out 1).trans rfl, (blk_cell BK337.out 2).trans rfl, (blk_cell BK337.out 3).trans rfl⟩ (fun hHeld => ?_)
        generalize w109.drew = w110 at HO352 HO357 HO362 HO369 BK336 BK337 BK354 BK359 BK366 BK371 HB hHeld ⊢
        refine take_ (i := 0) (N := some 45) (v := ?_) (a' := ?_) #[t_,f_,f_,f_,f_] rfl rfl (by kernel_rfl) (fun _ _ _ h => h) (Or.inl ⟨by rfl, ?_⟩) hHeld ?_ ?_
        rotate_left
        ·
         rintro w' ⟨s0, s1, s2, s3, s4, s5, s6, s7⟩
         go_simp
         with_reducible rfl
        rotate_left
        ·
         simp only [fr_]
         rfl
        refine take_ (i := 1) (N := some 46) (v := ?_) (a' := ?_) #[t_,t_,f_,f_,f_] rfl rfl (by kernel_rfl) (fun _ _ _ h => h) (Or.inl ⟨by rfl, ?_⟩) hHeld ?_ ?_
        rotate_left
        ·
         rintro w' ⟨s0, s1, s2, s3, s4, s5, s6, s7⟩
         go_simp
         with_reducible rfl
        rotate_left
        ·
         simp only [fr_]
         rfl
        refine one_ (i := 2) (N := some 47) #[t_,t_,t_,f_,f_] rfl rfl (by kernel_rfl) (by decide) (fun K hK => ?_)
        refine goes_ Try.func24 (by kernel_rfl) rfl #[.agg #[.slice A1_0 l1_0.length c1_0, .int .i64 a1_1, .int .i64 a1_2, .string a1_3]] (by rfl) rfl rfl (by (try simp only [mp_]); first | done | rfl | (simp only [List.length_drop, List.length_take]; rfl)) ?_
        with_reducible refine (laws_toAlarm.calls k _ _ l1_0 a1_1 a1_2 a1_3 t378 t381 t382 t383 _ ?side1 ?side2 A30.out).mono ?_
        (case side1 => repeat (first | exact (Kd.C_below HR1_0.out HB.out) | (with_reducible first | refine ca_ ?_ _ | refine cn_ ?_ _ | refine cd_ ?_)))
        (case side2 => exact HC1_0.out)
        rintro e w111 ⟨v379, rfl, ho0, hb⟩
        refine ⟨_, rfl, ?_⟩
        obtain ⟨nz112, hz112⟩ := Kd.R_name ho0
        have n0_ := Aside0.mk (Kd.S_below (Kd.S_ltz hz112 (sp_ HO352.out)) hb)
        have n1_ := Aside0.mk (Kd.S_below (Kd.S_ltz hz112 (sp_ HO357.out)) hb)
        have n2_ := Aside0.mk (Kd.R_below (Kd.R_ltz hz112 (rp_ HO362.out)) hb)
        have n3_ := Aside0.mk (Kd.S_below (Kd.S_ltz hz112 (sp_ HO369.out)) hb)
        have n4_ := Aside0.mk (Kd.R_lower (Kd.R_gez hz112 ho0) (below_size (by repeat (first | (with_reducible first | exact HB.out | apply ba_ | apply bn_ | apply bd_ | refine below_set ?_ GE336.out | refine below_set ?_ GE337.out | refine below_set ?_ GE354.out | refine below_set ?_ GE359.out | refine below_set ?_ GE366.out | refine below_set ?_ GE371.out) | exact HB.out))))
        have n5_ := Aside0.mk (bb_ BK336.out hb)
        have n6_ := Aside0.mk (bb_ BK337.out hb)
        have n7_ := Aside0.mk (bb_ BK354.out hb)
        have n8_ := Aside0.mk (bb_ BK359.out hb)
        have n9_ := Aside0.mk (bb_ BK366.out hb)
        have n10_ := Aside0.mk (bb_ BK371.out hb)
        have n11_ := Aside0.mk (below_step (by repeat (first | (with_reducible first | exact HB.out | apply ba_ | apply bn_ | apply bd_ | refine below_set ?_ GE336.out | refine below_set ?_ GE337.out | refine below_set ?_ GE354.out | refine below_set ?_ GE359.out | refine below_set ?_ GE366.out | refine below_set ?_ GE371.out) | exact HB.out)) hb)
        clear HO352
        clear HO357
        clear HO362
        clear HO369
        clear BK336
        clear BK337
        clear BK354
        clear BK359
        clear BK366
        clear BK371
        clear HB
        have HO352 := n0_
        have HO357 := n1_
        have HO362 := n2_
        have HO369 := n3_
        have HO380 := n4_
        have BK336 := n5_
        have BK337 := n6_
        have BK354 := n7_
        have BK359 := n8_
        have BK366 := n9_
        have BK371 := n10_
        have HB := n11_
        clear n0_ n1_ n2_ n3_ n4_ n5_ n6_ n7_ n8_ n9_ n10_ n11_
        (try clear hb)
        (try clear hb2)
        (try clear hk)
        (try clear hi)
        (try clear ho0)
        obtain ⟨Ao113, co113, eo113⟩ := Kd.R_slice HO380.out
        (first | subst eo113 | (injection eo113 with f1_ f2_ f3_; have f4_ := f1_.symm; have f5_ := f3_.symm; clear f1_ f2_ f3_; subst f4_; subst f5_))
        refine hK.out _ _ ⟨(blk_cell BK366.out 0).trans rfl, (blk_cell BK366.out 1).trans rfl, (blk_cell BK366.out 2).trans rfl, (blk_cell BK366.out 3).trans rfl, (blk_cell BK337.out 0).trans rfl, (blk_cell BK337.out 1).trans rfl, (blk_cell BK337.out 2).trans rfl, (blk_cell BK337.out 3).trans rfl⟩ (fun hHeld => ?_)
        clear hK K
        refine norm_ (a' := ?_) ?_ ?_
        rotate_left
        ·
         show Act.put _ (some 47) _ = _
         simp only [fr_]
         rfl
        refine one_ (i := 3) (N := some 48) #[t_,t_,t_,t_,f_] rfl rfl (by kernel_rfl) (by decide) (fun K hK => ?_)
        refine goes_ Try.func27 (by kernel_rfl) rfl #[.agg #[.slice Ao86 t360.length co86, .int .i64 t363, .int .i64 t364, .string t365], .agg #[.slice Ao113 t378.length co113, .int .i64 t381, .int .i64 t382, .string t383]] (by rfl) rfl rfl (by (try simp only [mp_]); first | done | rfl | (simp only [List.length_drop, List.length_take]; rfl)) ?_
        with_reducible refine (laws_eqAlarm.calls k _ _ t360 t363 t364 t365 _ _ t378 t381 t382 t383 true _ ?side1 ?side2 ?side3 ?side4 A31.out).mono ?_
        (case side1 => repeat (first | exact (Kd.R_reads' HO362.out).2.2 | (with_reducible first | refine ca_ ?_ _ | refine cn_ ?_ _ | refine cd_ ?_)))
        (case side2 => exact (Kd.R_reads' HO362.out).2.1)
        (case side3 => repeat (first | exact (Kd.R_reads' HO380.out).2.2 | (with_reducible first | refine ca_ ?_ _ | refine cn_ ?_ _ | refine cd_ ?_)))
        (case side4 => exact (Kd.R_reads' HO380.out).2.1)
        rintro e w114 ⟨rfl, hb⟩
        refine ⟨_, rfl, ?_⟩
        have n0_ := Aside0.mk (Kd.S_below (sp_ HO352.out) hb)
        have n1_ := Aside0.mk (Kd.S_below (sp_ HO357.out) hb)
        have n2_ := Aside0.mk (Kd.R_below (rp_ HO362.out) hb)
        have n3_ := Aside0.mk (Kd.S_below (sp_ HO369.out) hb)
        have n4_ := Aside0.mk (Kd.R_below (rp_ HO380.out) hb)
        have n5_ := Aside0.mk (bb_ BK336.out hb)
        have n6_ := Aside0.mk (bb_ BK337.out hb)
        have n7_ := Aside0.mk (bb_ BK354.out hb)
        have n8_ := Aside0.mk (bb_ BK359.out hb)
        have n9_ := Aside0.mk (bb_ BK366.out hb)
        have n10_ := Aside0.mk (bb_ BK371.out hb)
        have n11_ := Aside0.mk (below_step (by repeat (first | (with_reducible first | exact HB.out | apply ba_ | apply bn_ | apply bd_ | refine below_set ?_ GE336.out | refine below_set ?_ GE337.out | refine below_set ?_ GE354.out | refine below_set ?_ GE359.out | refine below_set ?_ GE366.out | refine below_set ?_ GE371.out) | exact HB.out)) hb)
        clear HO352
        clear HO357
        clear HO362
        clear HO369
        clear HO380
        clear BK336
        clear BK337
        clear BK354
        clear BK359
        clear BK366
        clear BK371
        clear HB
        have HO352 := n0_
        have HO357 := n1_
        have HO362 := n2_
        have HO369 := n3_
        have HO380 := n4_
        have BK336 := n5_
        have BK337 := n6_
        have BK354 := n7_
        have BK359 := n8_
        have BK366 := n9_
        have BK371 := n10_
        have HB := n11_
        clear n0_ n1_ n2_ n3_ n4_ n5_ n6_ n7_ n8_ n9_ n10_ n11_
        (try clear hb)
        (try clear hb2)
        (try clear hk)
        (try clear hi)
        refine hK.out _ _ ⟨(blk_cell BK366.out 0).trans rfl, (blk_cell BK366.out 1).trans rfl, (blk_cell BK366.out 2).trans rfl, (blk_cell BK366.out 3).trans rfl, (blk_cell BK337.out 0).trans rfl, (blk_cell BK337.out 1).trans rfl, (blk_cell BK337.out 2).trans rfl, (blk_cell BK337.out 3).trans rfl⟩ (fun hHeld => ?_)
        clear hK K
        refine norm_ (a' := ?_) ?_ ?_
        rotate_left
        ·
         show Act.put _ (some 48) _ = _
         simp only [fr_]
         rfl
        refine pure_ (i := 4) (N := some 49) (v := ?_) (a' := ?_) #[t_,t_,t_,t_,t_] rfl rfl (by kernel_rfl) (fun _ _ _ h => h) (Or.inl ⟨by rfl, ?_⟩) ?_ ?_
        rotate_left
        ·
         intro w'
         go_simp
         with_reducible rfl
        rotate_left
        ·
         simp only [fr_]
         rfl
        refine done_ (by kernel_rfl) ?_
        have hcz115_0 : w114.cell? ⟨gb359, 0, none⟩ = some (.slice Ao76 t355.length co76) := (blk_cell BK359.out 0).trans rfl
        have hcz115_1 : w114.cell? ⟨gb359, 1, none⟩ = some (.bool t358) := (blk_cell BK359.out 1).trans rfl
        have hfz115_0 := blk_frozen BK359.out 0
        have hfz115_1 := blk_frozen BK359.out 1
        obtain ⟨PXP116, hPXP116, hPlP116⟩ := Kd.S_fp HO357.out
        try go_wp2_with (first | ((with_reducible refine gate_callee (f := 28) rfl ?_); refine goesL_ (some 52) rfl rfl Try.func28 (by kernel_rfl) rfl #[.agg #[.slice Ao76 t355.length co76, .bool t358], .int .i64 1] rfl (by (try simp only [mp_]); first | done | rfl | (simp only [List.length_drop, List.length_take]; rfl)) ?_; (with_reducible refine (laws_markSub.calls k PXP116 (.slice Ao76 t355.length co76) t355 t358 1 t385 t386 w _ ?side1 ?side2 A33.out).mono ?_); (case side1 => repeat (first | (with_reducible first | exact HB.out | apply ba_ | apply bn_ | apply bd_ | refine below_set ?_ GE336.out | refine below_set ?_ GE337.out | refine below_set ?_ GE354.out | refine below_set ?_ GE366.out | refine below_set ?_ GE371.out) | exact HB.out)); (case side2 => exact hPXP116); rintro e w117 ⟨rfl, hy0, hb, hkp⟩; refine ⟨_, rfl, ?_⟩; have n0_ := Aside0.mk (blk_kept (pb_ BK336.out) hkp (fun hs_ => (fun e_ => no_blk (pb_ BK336.out) (by decide) (hPlP116 _ e_).2.2) hs_)); have n1_ := Aside0.mk (blk_kept (pb_ BK337.out) hkp (fun hs_ => (fun e_ => no_blk (pb_ BK337.out) (by decide) (hPlP116 _ e_).2.2) hs_)); have n2_ := Aside0.mk (Kd.S_mono (ok' := fun k_ => k_ ≠ gb366 ∧ k_ < nz74 ∧ k_ < nz84 ∧ k_ < nz94 ∧ k_ < nz107 ∧ k_ < nz112) (Kd.S_keptB (HO352.out) hkp (fun k_ hk_ hs_ => (fun e_ => Nat.lt_irrefl _ (Nat.lt_of_lt_of_le hk_.1.1.1.1.1.2 (hPlP116 _ e_).1.1.1.1.1.1.2)) hs_)) (fun k_ hk_ => ⟨hk_.1.1.1.1.2, hk_.1.1.1.1.1.1.2, hk_.1.1.1.1.1.2, hk_.1.1.1.2, hk_.1.1.2, hk_.1.2⟩)); have n3_ := Aside0.mk (blk_kept (pb_ BK354.out) hkp (fun hs_ => (fun e_ => no_blk (pb_ BK354.out) (by decide) (hPlP116 _ e_).2.2) hs_)); have n4_ := Aside0.mk (Kd.S_mono hy0 (fun k_ hk_ => (hPlP116 k_ hk_).1)); have n5_ := Aside0.mk (Kd.R_mono (ok' := fun k_ => nz84 ≤ k_ ∧ k_ < nz94 ∧ k_ < nz107 ∧ k_ < nz112) (Kd.R_keptB (HO362.out) hkp (fun k_ hk_ hs_ => (fun e_ => Nat.lt_irrefl _ (Nat.lt_of_lt_of_le (hPlP116 _ e_).1.1.1.1.1.2 hk_.1.1.1.2)) hs_)) (fun k_ hk_ => ⟨hk_.1.1.1.1.2, hk_.1.1.1.2, hk_.1.1.2, hk_.1.2⟩)); have n6_ := Aside0.mk (blk_kept (pb_ BK366.out) hkp (fun hs_ => (fun e_ => ((hPlP116 _ e_).1.1.1.1.2) rfl) hs_)); have n7_ := Aside0.mk (Kd.S_mono (ok' := fun k_ => k_ ≠ gb366 ∧ nz94 ≤ k_ ∧ k_ < nz107 ∧ k_ < nz112) (Kd.S_keptB (HO369.out) hkp (fun k_ hk_ hs_ => (fun e_ => Nat.lt_irrefl _ (Nat.lt_of_lt_of_le (hPlP116 _ e_).1.1.1.2 hk_.1.1.1.2)) hs_)) (fun k_ hk_ => ⟨hk_.1.1.1.2, hk_.1.1.1.1.2, hk_.1.1.2, hk_.1.2⟩)); have n8_ := Aside0.mk (blk_kept (pb_ BK371.out) hkp (fun hs_ => (fun e_ => no_blk (pb_ BK371.out) (by decide) (hPlP116 _ e_).2.2) hs_)); have n9_ := Aside0.mk (hb); clear BK336; clear BK337; clear HO352; clear BK354; clear HO357; clear HO362; clear BK366; clear HO369; clear BK371; clear HB; have BK336 := n0_; have BK337 := n1_; have HO352 := n2_; have BK354 := n3_; have HO357 := n4_; have HO362 := n5_; have BK366 := n6_; have HO369 := n7_; have BK371 := n8_; have HB := n9_; clear n0_ n1_ n2_ n3_ n4_ n5_ n6_ n7_ n8_ n9_; (try clear hb); (try clear hkp); (try clear hy0); have hcz118_0 : w117.cell? ⟨gb366, 0, none⟩ = some (.slice Ao86 t360.length co86) := (blk_cell BK366.out 0).trans rfl; have hcz118_1 : w117.cell? ⟨gb366, 1, none⟩ = some (.int .i64 t363) := (blk_cell BK366.out 1).trans rfl; have hcz118_2 : w117.cell? ⟨gb366, 2, none⟩ = some (.int .i64 t364) := (blk_cell BK366.out 2).trans rfl; have hcz118_3 : w117.cell? ⟨gb366, 3, none⟩ = some (.string t365) := (blk_cell BK366.out 3).trans rfl; have hfz118_0 := blk_frozen BK366.out 0; have hfz118_1 := blk_frozen BK366.out 1; have hfz118_2 := blk_frozen BK366.out 2; have hfz118_3 := blk_frozen BK366.out 3; obtain ⟨PXP119, hPXP119, hPlP119⟩ := Kd.R_fpt rfl HO362.out) | ((with_reducible refine gate_callee (f := 29) rfl ?_); refine goesL_ (some 55) rfl rfl Try.func29 (by kernel_rfl) rfl #[.agg #[.slice Ao86 t360.length co86, .int .i64 t363, .int .i64 t364, .string t365], .int .i64 t385] rfl (by (try simp only [mp_]); first | done | rfl | (simp only [List.length_drop, List.length_take]; rfl)) ?_; (with_reducible refine (laws_markAlarm.calls k PXP119 (.slice Ao86 t360.length co86) t360 t363 t364 t365 t385 t387 t388 w _ ?side1 ?side2 A34.out).mono ?_); (case side1 => repeat (first | (with_reducible first | exact HB.out | apply ba_ | apply bn_ | apply bd_ | refine below_set ?_ GE336.out | refine below_set ?_ GE337.out | refine below_set ?_ GE354.out | refine below_set ?_ GE366.out | refine below_set ?_ GE371.out) | exact HB.out)); (case side2 => exact hPXP119); rintro e w120 ⟨rfl, hy0, hb, hkp⟩; refine ⟨_, rfl, ?_⟩; have n0_ := Aside0.mk (blk_kept (pb_ BK336.out) hkp (fun hs_ => (fun e_ => no_blk (pb_ BK336.out) (by decide) (hPlP119 _ e_).2.2) hs_)); have n1_ := Aside0.mk (blk_kept (pb_ BK337.out) hkp (fun hs_ => (fun e_ => no_blk (pb_ BK337.out) (by decide) (hPlP119 _ e_).2.2) hs_)); have n2_ := Aside0.mk (Kd.S_mono (ok' := fun k_ => k_ ≠ gb366 ∧ k_ < nz74 ∧ k_ < nz84 ∧ k_ < nz94 ∧ k_ < nz107 ∧ k_ < nz112) (Kd.S_keptB (HO352.out) hkp (fun k_ hk_ hs_ => (fun e_ => Nat.lt_irrefl _ (Nat.lt_of_lt_of_le hk_.2.2.1 (hPlP119 _ e_).1.1.1)) hs_)) (fun k_ hk_ => ⟨hk_.1.1, hk_.1.2.1, hk_.1.2.2.1, hk_.1.2.2.2.1, hk_.1.2.2.2.2.1, hk_.1.2.2.2.2.2⟩)); have n3_ := Aside0.mk (blk_kept (pb_ BK354.out) hkp (fun hs_ => (fun e_ => no_blk (pb_ BK354.out) (by decide) (hPlP119 _ e_).2.2) hs_)); have n4_ := Aside0.mk (Kd.R_reok rfl hy0 (fun k_ e_ => HO362.out.1 k_ e_)); have n5_ := Aside0.mk (blk_kept (pb_ BK366.out) hkp (fun hs_ => (fun e_ => no_blk (pb_ BK366.out) (by decide) (hPlP119 _ e_).2.2) hs_)); have n6_ := Aside0.mk (Kd.S_mono (ok' := fun k_ => k_ ≠ gb366 ∧ nz94 ≤ k_ ∧ k_ < nz107 ∧ k_ < nz112) (Kd.S_keptB (HO369.out) hkp (fun k_ hk_ hs_ => (fun e_ => Nat.lt_irrefl _ (Nat.lt_of_lt_of_le (hPlP119 _ e_).1.1.2.1 hk_.2.1)) hs_)) (fun k_ hk_ => ⟨hk_.1.1, hk_.1.2.1, hk_.1.2.2.1, hk_.1.2.2.2⟩)); have n7_ := Aside0.mk (blk_kept (pb_ BK371.out) hkp (fun hs_ => (fun e_ => no_blk (pb_ BK371.out) (by decide) (hPlP119 _ e_).2.2) hs_)); have n8_ := Aside0.mk (hb); clear BK336; clear BK337; clear HO352; clear BK354; clear HO362; clear BK366; clear HO369; clear BK371; clear HB; have BK336 := n0_; have BK337 := n1_; have HO352 := n2_; have BK354 := n3_; have HO362 := n4_; have BK366 := n5_; have HO369 := n6_; have BK371 := n7_; have HB := n8_; clear n0_ n1_ n2_ n3_ n4_ n5_ n6_ n7_ n8_; (try clear hb); (try clear hkp); (try clear hy0); have hcz121_0 : w120.cell? ⟨gb371, 0, none⟩ = some (.slice Ao96 t367.length co96) := (blk_cell BK371.out 0).trans rfl; have hcz121_1 : w120.cell? ⟨gb371, 1, none⟩ = some (.bool t370) := (blk_cell BK371.out 1).trans rfl; have hfz121_0 := blk_frozen BK371.out 0; have hfz121_1 := blk_frozen BK371.out 1; have hcz122_0 : w120.cell? ⟨gb354, 0, none⟩ = some (.slice Ao68 t350.length co68) := (blk_cell BK354.out 0).trans rfl; have hcz122_1 : w120.cell? ⟨gb354, 1, none⟩ = some (.bool t353) := (blk_cell BK354.out 1).trans rfl; have hfz122_0 := blk_frozen BK354.out 0; have hfz122_1 := blk_frozen BK354.out 1) | (go_at_call 26; (with_reducible refine (laws_eqSub.calls k _ _ t367 t370 _ _ t350 t353 true _ ?side1 ?side2 ?side3 ?side4 A36.out).mono ?_); (case side1 => repeat (first | exact (Kd.S_reads' HO369.out).2.2 | (with_reducible first | refine ca_ ?_ _ | refine cn_ ?_ _ | refine cd_ ?_))); (case side2 => exact (Kd.S_reads' HO369.out).2.1); (case side3 => repeat (first | exact (Kd.S_reads' HO352.out).2.2 | (with_reducible first | refine ca_ ?_ _ | refine cn_ ?_ _ | refine cd_ ?_))); (case side4 => exact (Kd.S_reads' HO352.out).2.1); rintro e w123 ⟨rfl, hb⟩; have n0_ := Aside0.mk (Kd.S_below (sp_ HO352.out) hb); have n1_ := Aside0.mk (Kd.S_below (sp_ HO369.out) hb); have n2_ := Aside0.mk (bb_ BK336.out hb); have n3_ := Aside0.mk (bb_ BK337.out hb); have n4_ := Aside0.mk (bb_ BK354.out hb); have n5_ := Aside0.mk (bb_ BK366.out hb); have n6_ := Aside0.mk (bb_ BK371.out hb); have n7_ := Aside0.mk (below_step (by repeat (first | (with_reducible first | exact HB.out | apply ba_ | apply bn_ | apply bd_ | refine below_set ?_ GE336.out | refine below_set ?_ GE337.out | refine below_set ?_ GE354.out | refine below_set ?_ GE366.out | refine below_set ?_ GE371.out) | exact HB.out)) hb); clear HO352; clear HO369; clear BK336; clear BK337; clear BK354; clear BK366; clear BK371; clear HB; have HO352 := n0_; have HO369 := n1_; have BK336 := n2_; have BK337 := n3_; have BK354 := n4_; have BK366 := n5_; have BK371 := n6_; have HB := n7_; clear n0_ n1_ n2_ n3_ n4_ n5_ n6_ n7_; (try clear hb); (try clear hb2); (try clear hk); (try clear hi); have hcz124_0 : w123.cell? ⟨gb371, 0, none⟩ = some (.slice Ao96 t367.length co96) := (blk_cell BK371.out 0).trans rfl; have hcz124_1 : w123.cell? ⟨gb371, 1, none⟩ = some (.bool t370) := (blk_cell BK371.out 1).trans rfl; have hfz124_0 := blk_frozen BK371.out 0; have hfz124_1 := blk_frozen BK371.out 1; obtain ⟨PXP125, hPXP125, hPlP125⟩ := Kd.S_fp HO369.out) | ((with_reducible refine gate_callee (f := 28) rfl ?_); refine goesL_ (some 66) rfl rfl Try.func28 (by kernel_rfl) rfl #[.agg #[.slice Ao96 t367.length co96, .bool t370], .int .i64 1] rfl (by (try simp only [mp_]); first | done | rfl | (simp only [List.length_drop, List.length_take]; rfl)) ?_; (with_reducible refine (laws_markSub.calls k PXP125 (.slice Ao96 t367.length co96) t367 t370 1 t390 t391 w _ ?side1 ?side2 A38.out).mono ?_); (case side1 => repeat (first | (with_reducible first | exact HB.out | apply ba_ | apply bn_ | apply bd_ | refine below_set ?_ GE336.out | refine below_set ?_ GE337.out | refine below_set ?_ GE354.out | refine below_set ?_ GE366.out | refine below_set ?_ GE371.out) | exact HB.out)); (case side2 => exact hPXP125); rintro e w126 ⟨rfl, hy0, hb, hkp⟩; refine ⟨_, rfl, ?_⟩; have n0_ := Aside0.mk (blk_kept (pb_ BK336.out) hkp (fun hs_ => (fun e_ => no_blk (pb_ BK336.out) (by decide) (hPlP125 _ e_).2.2) hs_)); have n1_ := Aside0.mk (blk_kept (pb_ BK337.out) hkp (fun hs_ => (fun e_ => no_blk (pb_ BK337.out) (by decide) (hPlP125 _ e_).2.2) hs_)); have n2_ := Aside0.mk (Kd.S_mono (ok' := fun k_ => k_ ≠ gb366 ∧ k_ < nz74 ∧ k_ < nz84 ∧ k_ < nz94 ∧ k_ < nz107 ∧ k_ < nz112) (Kd.S_keptB (HO352.out) hkp (fun k_ hk_ hs_ => (fun e_ => Nat.lt_irrefl _ (Nat.lt_of_lt_of_le hk_.2.2.2.1 (hPlP125 _ e_).1.2.1)) hs_)) (fun k_ hk_ => ⟨hk_.1.1, hk_.1.2.1, hk_.1.2.2.1, hk_.1.2.2.2.1, hk_.1.2.2.2.2.1, hk_.1.2.2.2.2.2⟩)); have n3_ := Aside0.mk (blk_kept (pb_ BK354.out) hkp (fun hs_ => (fun e_ => no_blk (pb_ BK354.out) (by decide) (hPlP125 _ e_).2.2) hs_)); have n4_ := Aside0.mk (blk_kept (pb_ BK366.out) hkp (fun hs_ => (fun e_ => ((hPlP125 _ e_).1.1) rfl) hs_)); have n5_ := Aside0.mk (Kd.S_mono hy0 (fun k_ hk_ => (hPlP125 k_ hk_).1)); have n6_ := Aside0.mk (blk_kept (pb_ BK371.out) hkp (fun hs_ => (fun e_ => no_blk (pb_ BK371.out) (by decide) (hPlP125 _ e_).2.2) hs_)); have n7_ := Aside0.mk (hb); clear BK336; clear BK337; clear HO352; clear BK354; clear BK366; clear HO369; clear BK371; clear HB; have BK336 := n0_; have BK337 := n1_; have HO352 := n2_; have BK354 := n3_; have BK366 := n4_; have HO369 := n5_; have BK371 := n6_; have HB := n7_; clear n0_ n1_ n2_ n3_ n4_ n5_ n6_ n7_; (try clear hb); (try clear hkp); (try clear hy0); have hcz127_0 : w126.cell? ⟨gb371, 0, none⟩ = some (.slice Ao96 t367.length co96) := (blk_cell BK371.out 0).trans rfl; have hcz127_1 : w126.cell? ⟨gb371, 1, none⟩ = some (.bool t370) := (blk_cell BK371.out 1).trans rfl; have hfz127_0 := blk_frozen BK371.out 0; have hfz127_1 := blk_frozen BK371.out 1) | ((with_reducible refine gate_callee (f := 30) rfl ?_); refine goesL_ (some 69) rfl rfl Try.func30 (by kernel_rfl) rfl #[.agg #[.slice Ao96 t391.length co96, .bool t370], .int .i64 1] rfl (by (try simp only [mp_]); first | done | (rw [show t391.length = t367.length from (Kd.S_reads' HO369.out).1.symm] <;> rfl) | rfl | (simp only [List.length_drop, List.length_take]; rfl)) ?_; (with_reducible refine (laws_heldSub.calls k _ _ t391 t370 1 t392 _ ?side1 ?side2 A39.out).mono ?_); (case side1 => repeat (first | exact (Kd.S_reads' HO369.out).2.2 | (with_reducible first | refine ca_ ?_ _ | refine cn_ ?_ _ | refine cd_ ?_))); (case side2 => rw [show t391.length = t367.length from (Kd.S_reads' HO369.out).1.symm]; exact (Kd.S_reads' HO369.out).2.1); rintro e w128 ⟨rfl, hb⟩; refine ⟨_, rfl, ?_⟩; have n0_ := Aside0.mk (Kd.S_below (sp_ HO352.out) hb); have n1_ := Aside0.mk (Kd.S_below (sp_ HO369.out) hb); have n2_ := Aside0.mk (bb_ BK336.out hb); have n3_ := Aside0.mk (bb_ BK337.out hb); have n4_ := Aside0.mk (bb_ BK354.out hb); have n5_ := Aside0.mk (bb_ BK366.out hb); have n6_ := Aside0.mk (bb_ BK371.out hb); have n7_ := Aside0.mk (below_step (by repeat (first | (with_reducible first | exact HB.out | apply ba_ | apply bn_ | apply bd_ | refine below_set ?_ GE336.out | refine below_set ?_ GE337.out | refine below_set ?_ GE354.out | refine below_set ?_ GE366.out | refine below_set ?_ GE371.out) | exact HB.out)) hb); clear HO352; clear HO369; clear BK336; clear BK337; clear BK354; clear BK366; clear BK371; clear HB; have HO352 := n0_; have HO369 := n1_; have BK336 := n2_; have BK337 := n3_; have BK354 := n4_; have BK366 := n5_; have BK371 := n6_; have HB := n7_; clear n0_ n1_ n2_ n3_ n4_ n5_ n6_ n7_; (try clear hb); (try clear hb2); (try clear hk); (try clear hi)))
        have n0_ := Aside0.mk (Kd.S_drew HO352.out)
        have n1_ := Aside0.mk (Kd.S_drew HO369.out)
        have n2_ := Aside0.mk (blk_drew BK336.out)
        have n3_ := Aside0.mk (blk_drew BK337.out)
        have n4_ := Aside0.mk (blk_drew BK354.out)
        have n5_ := Aside0.mk (blk_drew BK366.out)
        have n6_ := Aside0.mk (blk_drew BK371.out)
        have n7_ := Aside0.mk (bd_ HB.out)
        clear HO352
        clear HO369
        clear BK336
        clear BK337
        clear BK354
        clear BK366
        clear BK371
        clear HB
        have HO352 := n0_
        have HO369 := n1_
        have BK336 := n2_
        have BK337 := n3_
        have BK354 := n4_
        have BK366 := n5_
        have BK371 := n6_
        have HB := n7_
        clear n0_ n1_ n2_ n3_ n4_ n5_ n6_ n7_
        refine start_ (n := 7) (S := fun w' => w'.cell? ⟨gb336, 0, none⟩ = some (.slice A0_0 l0_0.length c0_0) ∧ w'.cell? ⟨gb336, 1, none⟩ = some (.bool a0_1) ∧ w'.cell? ⟨gb337, 0, none⟩ = some (.slice A1_0 l1_0.length c1_0) ∧ w'.cell? ⟨gb337, 1, none⟩ = some (.int .i64 a1_1) ∧ w'.cell? ⟨gb337, 2, none⟩ = some (.int .i64 a1_2) ∧ w'.cell? ⟨gb337, 3, none⟩ = some (.string a1_3)) (ds := []) #[f_,f_,f_,f_,f_,f_,f_] (by kernel_rfl) rfl rfl ⟨(blk_cell BK336.out 0).trans rfl, (blk_cell BK336.out 1).trans rfl, (blk_cell BK337.out 0).trans rfl, (blk_cell BK337.out 1).trans rfl, (blk_cell BK337.out 2).trans rfl, (blk_cell BK337.out 3).trans rfl⟩ (fun hHeld => ?_)
        generalize w128.drew = w129 at HO352 HO369 BK336 BK337 BK354 BK366 BK371 HB hHeld ⊢
        refine take_ (i := 0) (N := some 75) (v := ?_) (a' := ?_) #[t_,f_,f_,f_,f_,f_,f_] rfl rfl (by kernel_rfl) (fun _ _ _ h => h) (Or.inl ⟨by rfl, ?_⟩) hHeld ?_ ?_
        rotate_left
        ·
         rintro w' ⟨s0, s1, s2, s3, s4, s5⟩
         go_simp
         with_reducible rfl
        rotate_left
        ·
         simp only [fr_]
         rfl
        refine take_ (i := 2) (N := some 77) (v := ?_) (a' := ?_) #[t_,f_,t_,f_,f_,f_,f_] rfl rfl (by kernel_rfl) (fun _ _ _ h => h) (Or.inl ⟨by rfl, ?_⟩) hHeld ?_ ?_
        rotate_left
        ·
         rintro w' ⟨s0, s1, s2, s3, s4, s5⟩
         go_simp
         with_reducible rfl
        rotate_left
        ·
         simp only [fr_]
         rfl
        refine join_ (σ := Value × Value × Value × Nat) 1 #[t_,t_,t_,t_,t_,t_,f_] (fun s_ => [(76, .agg #[s_.1, .bool t396]), (78, .agg #[s_.2.1, .int .i64 t400, .int .i64 t401, .string t402]), (79, .agg #[s_.2.2.1, .bool t406]), (13, .pointer (some ⟨s_.2.2.2, 0, none⟩))]) (fun s_ w' => (w'.cell? ⟨gb336, 0, none⟩ = some (.slice A0_0 l0_0.length c0_0) ∧ w'.cell? ⟨gb336, 1, none⟩ = some (.bool a0_1) ∧ w'.cell? ⟨gb337, 0, none⟩ = some (.slice A1_0 l1_0.length c1_0) ∧ w'.cell? ⟨gb337, 1, none⟩ = some (.int .i64 a1_1) ∧ w'.cell? ⟨gb337, 2, none⟩ = some (.int .i64 a1_2) ∧ w'.cell? ⟨gb337, 3, none⟩ = some (.string a1_3)) ∧ (Kd.S k44 44 w' w.heap.size (fun k_ => k_ ≠ gb366 ∧ k_ < nz107 ∧ k_ < nz112 ∧ k_ < nz74 ∧ k_ < nz84 ∧ k_ < nz94) (.slice Ao68 t350.length co68) t350) ∧ (Kd.S k44 44 w' w.heap.size (fun k_ => k_ ≠ gb366 ∧ nz94 ≤ k_ ∧ k_ < nz107 ∧ k_ < nz112) (.slice Ao96 t367.length co96) t391) ∧ (Kd.S k44 44 w' w.heap.size (fun k_ => k_ ≠ gb366) s_.1 t393) ∧ (Kd.R k164 164 w' w.heap.size (fun _ => True) s_.2.1 t397) ∧ (Kd.S k44 44 w' w.heap.size (fun k_ => k_ ≠ gb366) s_.2.2.1 t403) ∧ (w'.heap[gb336]? = some (.cells #[.slice A0_0 l0_0.length c0_0, .bool a0_1] 31 (0, 0))) ∧ (w'.heap[gb337]? = some (.cells #[.slice A1_0 l1_0.length c1_0, .int .i64 a1_1, .int .i64 a1_2, .string a1_3] 34 (0, 0))) ∧ (w'.heap[gb354]? = some (.cells #[.slice Ao68 t350.length co68, .bool t353] 39 (0, 0))) ∧ (w'.heap[gb366]? = some (.cells #[.slice Ao86 t360.length co86, .int .i64 t363, .int .i64 t364, .string t365] 44 (0, 0))) ∧ (w'.heap[gb371]? = some (.cells #[.slice Ao96 t367.length co96, .bool t370] 39 (0, 0))) ∧ (w'.heap[s_.2.2.2]? = some (.cells #[.slice none 0 0, .bool false] 39 (0, 0))) ∧ (w.heap.size ≤ s_.2.2.2) ∧ (w.heap.size ≤ s_.2.2.2) ∧ (gb336 ≠ s_.2.2.2) ∧ (s_.2.2.2 ≠ gb336) ∧ (gb337 ≠ s_.2.2.2) ∧ (s_.2.2.2 ≠ gb337) ∧ (gb354 ≠ s_.2.2.2) ∧ (s_.2.2.2 ≠ gb354) ∧ (gb366 ≠ s_.2.2.2) ∧ (s_.2.2.2 ≠ gb366) ∧ (gb371 ≠ s_.2.2.2) ∧ (s_.2.2.2 ≠ gb371) ∧ (Below w.heap.size w w')) ?_ ?_
        rotate_left
        ·
         intro hCont
         refine two_ (i := 1) (j := 5) (Ni := some 76) (Nj := some 13) #[t_,t_,t_,f_,f_,f_,f_] #[t_,f_,t_,f_,f_,t_,f_] rfl rfl rfl rfl (by kernel_rfl) (by decide) (by decide) (fun K hK => ?_) (fun K hK => ?_)
         ·
          skip
          refine goes_ Try.func23 (by kernel_rfl) rfl #[.agg #[.slice A0_0 l0_0.length c0_0, .bool a0_1]] (by rfl) rfl rfl (by (try simp only [mp_]); first | done | rfl | (simp only [List.length_drop, List.length_take]; rfl)) ?_
          with_reducible refine (laws_toSub.calls k _ _ l0_0 a0_1 t393 t396 _ ?side1 ?side2 A42.out).mono ?_
          (case side1 => repeat (first | exact (Kd.C_below HR0_0.out HB.out) | (with_reducible first | refine ca_ ?_ _ | refine cn_ ?_ _ | refine cd_ ?_)))
          (case side2 => exact HC0_0.out)
          rintro e w130 ⟨v394, rfl, ho0, hb⟩
          refine ⟨_, rfl, ?_⟩
          obtain ⟨nz131, hz131⟩ := Kd.S_name ho0
          have n0_ := Aside0.mk (Kd.S_below (Kd.S_ltz hz131 (sp_ HO352.out)) hb)
          have n1_ := Aside0.mk (Kd.S_below (Kd.S_ltz hz131 (sp_ HO369.out)) hb)
          have n2_ := Aside0.mk (Kd.S_lower (Kd.S_newB (Kd.S_gez hz131 ho0) (g := gb366) (o := .cells #[.slice Ao86 t360.length co86, .int .i64 t363, .int .i64 t364, .string t365] 44 (0, 0)) (pb_ BK366.out)) (below_size (by repeat (first | (with_reducible first | exact HB.out | apply ba_ | apply bn_ | apply bd_ | refine below_set ?_ GE336.out | refine below_set ?_ GE337.out | refine below_set ?_ GE354.out | refine below_set ?_ GE366.out | refine below_set ?_ GE371.out) | exact HB.out))))
          have n3_ := Aside0.mk (bb_ BK336.out hb)
          have n4_ := Aside0.mk (bb_ BK337.out hb)
          have n5_ := Aside0.mk (bb_ BK354.out hb)
          have n6_ := Aside0.mk (bb_ BK366.out hb)
          have n7_ := Aside0.mk (bb_ BK371.out hb)
          have n8_ := Aside0.mk (below_step (by repeat (first | (with_reducible first | exact HB.out | apply ba_ | apply bn_ | apply bd_ | refine below_set ?_ GE336.out | refine below_set ?_ GE337.out | refine below_set ?_ GE354.out | refine below_set ?_ GE366.out | refine below_set ?_ GE371.out) | exact HB.out)) hb)
          clear HO352
          clear HO369
          clear BK336
          clear BK337
          clear BK354
          clear BK366
          clear BK371
          clear HB
          have HO352 := n0_
          have HO369 := n1_
          have HO395 := n2_
          have BK336 := n3_
          have BK337 := n4_
          have BK354 := n5_
          have BK366 := n6_
          have BK371 := n7_
          have HB := n8_
          clear n0_ n1_ n2_ n3_ n4_ n5_ n6_ n7_ n8_
          (try clear hb)
          (try clear hb2)
          (try clear hk)
          (try clear hi)
          (try clear ho0)
          refine hK.out _ _ ⟨(blk_cell BK336.out 0).trans rfl, (blk_cell BK336.out 1).trans rfl, (blk_cell BK337.out 0).trans rfl, (blk_cell BK337.out 1).trans rfl, (blk_cell BK337.out 2).trans rfl, (blk_cell BK337.out 3).trans rfl⟩ (fun hHeld => ?_)
          clear hK K
          refine norm_ (a' := ?_) ?_ ?_
          rotate_left
          ·
           show Act.put _ (some 76) _ = _
           simp only [fr_]
           rfl
          refine two_ (i := 3) (j := 5) (Ni := some 78) (Nj := some 13) #[t_,t_,t_,t_,f_,f_,f_] #[t_,t_,t_,f_,f_,t_,f_] rfl rfl rfl rfl (by kernel_rfl) (by decide) (by decide) (fun K hK => ?_) (fun K hK => ?_)
          ·
           skip
           refine goes_ Try.func24 (by kernel_rfl) rfl #[.agg #[.slice A1_0 l1_0.length c1_0, .int .i64 a1_1, .int .i64 a1_2, .string a1_3]] (by rfl) rfl rfl (by (try simp only [mp_]); first | done | rfl | (simp only [List.length_drop, List.length_take]; rfl)) ?_
           with_reducible refine (laws_toAlarm.calls k _ _ l1_0 a1_1 a1_2 a1_3 t397 t400 t401 t402 _ ?side1 ?side2 A43.out).mono ?_
           (case side1 => repeat (first | exact (Kd.C_below HR1_0.out HB.out) | (with_reducible first | refine ca_ ?_ _ | refine cn_ ?_ _ | refine cd_ ?_)))
           (case side2 => exact HC1_0.out)
           rintro e w132 ⟨v398, rfl, ho0, hb⟩
           refine ⟨_, rfl, ?_⟩
           obtain ⟨nz133, hz133⟩ := Kd.R_name ho0
           have n0_ := Aside0.mk (Kd.S_below (Kd.S_ltz hz133 (sp_ HO352.out)) hb)
           have n1_ := Aside0.mk (Kd.S_below (Kd.S_ltz hz133 (sp_ HO369.out)) hb)
           have n2_ := Aside0.mk (Kd.S_below (Kd.S_ltz hz133 (sp_ HO395.out)) hb)
           have n3_ := Aside0.mk (Kd.R_lower (Kd.R_gez hz133 ho0) (below_size (by repeat (first | (with_reducible first | exact HB.out | apply ba_ | apply bn_ | apply bd_ | refine below_set ?_ GE336.out | refine below_set ?_ GE337.out | refine below_set ?_ GE354.out | refine below_set ?_ GE366.out | refine below_set ?_ GE371.out) | exact HB.out))))
           have n4_ := Aside0.mk (bb_ BK336.out hb)
           have n5_ := Aside0.mk (bb_ BK337.out hb)
           have n6_ := Aside0.mk (bb_ BK354.out hb)
           have n7_ := Aside0.mk (bb_ BK366.out hb)
           have n8_ := Aside0.mk (bb_ BK371.out hb)
           have n9_ := Aside0.mk (below_step (by repeat (first | (with_reducible first | exact HB.out | apply ba_ | apply bn_ | apply bd_ | refine below_set ?_ GE336.out | refine below_set ?_ GE337.out | refine below_set ?_ GE354.out | refine below_set ?_ GE366.out | refine below_set ?_ GE371.out) | exact HB.out)) hb)
           clear HO352
           clear HO369
           clear HO395
           clear BK336
           clear BK337
           clear BK354
           clear BK366
           clear BK371
           clear HB
           have HO352 := n0_
           have HO369 := n1_
           have HO395 := n2_
           have HO399 := n3_
           have BK336 := n4_
           have BK337 := n5_
           have BK354 := n6_
           have BK366 := n7_
           have BK371 := n8_
           have HB := n9_
           clear n0_ n1_ n2_ n3_ n4_ n5_ n6_ n7_ n8_ n9_
           (try clear hb)
           (try clear hb2)
           (try clear hk)
           (try clear hi)
           (try clear ho0)
           obtain ⟨Ao134, co134, eo134⟩ := Kd.S_slice HO395.out
           (first | subst eo134 | (injection eo134 with f1_ f2_ f3_; have f4_ := f1_.symm; have f5_ := f3_.symm; clear f1_ f2_ f3_; subst f4_; subst f5_))
           obtain ⟨Ao135, co135, eo135⟩ := Kd.R_slice HO399.out
           (first | subst eo135 | (injection eo135 with f1_ f2_ f3_; have f4_ := f1_.symm; have f5_ := f3_.symm; clear f1_ f2_ f3_; subst f4_; subst f5_))
           refine hK.out _ _ ⟨(blk_cell BK336.out 0).trans rfl, (blk_cell BK336.out 1).trans rfl, (blk_cell BK337.out 0).trans rfl, (blk_cell BK337.out 1).trans rfl, (blk_cell BK337.out 2).trans rfl, (blk_cell BK337.out 3).trans rfl⟩ (fun hHeld => ?_)
           clear hK K
           refine norm_ (a' := ?_) ?_ ?_
           rotate_left
           ·
            show Act.put _ (some 78) _ = _
            simp only [fr_]
            rfl
           refine two_ (i := 4) (j := 5) (Ni := some 79) (Nj := some 13) #[t_,t_,t_,t_,t_,f_,f_] #[t_,t_,t_,t_,f_,t_,f_] rfl rfl rfl rfl (by kernel_rfl) (by decide) (by decide) (fun K hK => ?_) (fun K hK => ?_)
           ·
            skip
            refine goes_ Try.func25 (by kernel_rfl) rfl #[.agg #[.slice Ao134 t393.length co134, .bool t396], .agg #[.slice Ao135 t397.length co135, .int .i64 t400, .int .i64 t401, .string t402]] (by rfl) rfl rfl (by (try simp only [mp_]); first | done | rfl | (simp only [List.length_drop, List.length_take]; rfl)) ?_
            with_reducible refine (impl_Tell.calls k _ _ t393 t396 _ _ t397 t400 t401 t402 t403 t406 _ ?side1 ?side2 ?side3 ?side4 A44.out).mono ?_
            (case side1 => repeat (first | exact (Kd.S_reads' HO395.out).2.2 | (with_reducible first | refine ca_ ?_ _ | refine cn_ ?_ _ | refine cd_ ?_)))
            (case side2 => exact (Kd.S_reads' HO395.out).2.1)
            (case side3 => repeat (first | exact (Kd.R_reads' HO399.out).2.2 | (with_reducible first | refine ca_ ?_ _ | refine cn_ ?_ _ | refine cd_ ?_)))
            (case side4 => exact (Kd.R_reads' HO399.out).2.1)
            rintro e w136 ⟨v404, rfl, ho0, hb⟩
            refine ⟨_, rfl, ?_⟩
            obtain ⟨nz137, hz137⟩ := Kd.S_name ho0
            have n0_ := Aside0.mk (Kd.S_below (Kd.S_ltz hz137 (sp_ HO352.out)) hb)
            have n1_ := Aside0.mk (Kd.S_below (Kd.S_ltz hz137 (sp_ HO369.out)) hb)
            have n2_ := Aside0.mk (Kd.S_below (Kd.S_ltz hz137 (sp_ HO395.out)) hb)
            have n3_ := Aside0.mk (Kd.R_below (Kd.R_ltz hz137 (rp_ HO399.out)) hb)
            have n4_ := Aside0.mk (Kd.S_lower (Kd.S_newB (Kd.S_gez hz137 ho0) (g := gb366) (o := .cells #[.slice Ao86 t360.length co86, .int .i64 t363, .int .i64 t364, .string t365] 44 (0, 0)) (pb_ BK366.out)) (below_size (by repeat (first | (with_reducible first | exact HB.out | apply ba_ | apply bn_ | apply bd_ | refine below_set ?_ GE336.out | refine below_set ?_ GE337.out | refine below_set ?_ GE354.out | refine below_set ?_ GE366.out | refine below_set ?_ GE371.out) | exact HB.out))))
            have n5_ := Aside0.mk (bb_ BK336.out hb)
            have n6_ := Aside0.mk (bb_ BK337.out hb)
            have n7_ := Aside0.mk (bb_ BK354.out hb)
            have n8_ := Aside0.mk (bb_ BK366.out hb)
            have n9_ := Aside0.mk (bb_ BK371.out hb)
            have n10_ := Aside0.mk (below_step (by repeat (first | (with_reducible first | exact HB.out | apply ba_ | apply bn_ | apply bd_ | refine below_set ?_ GE336.out | refine below_set ?_ GE337.out | refine below_set ?_ GE354.out | refine below_set ?_ GE366.out | refine below_set ?_ GE371.out) | exact HB.out)) hb)
            clear HO352
            clear HO369
            clear HO395
            clear HO399
            clear BK336
            clear BK337
            clear BK354
            clear BK366
            clear BK371
            clear HB
            have HO352 := n0_
            have HO369 := n1_
            have HO395 := n2_
            have HO399 := n3_
            have HO405 := n4_
            have BK336 := n5_
            have BK337 := n6_
            have BK354 := n7_
            have BK366 := n8_
            have BK371 := n9_
            have HB := n10_
            clear n0_ n1_ n2_ n3_ n4_ n5_ n6_ n7_ n8_ n9_ n10_
            (try clear hb)
            (try clear hb2)
            (try clear hk)
            (try clear hi)
            (try clear ho0)
            refine hK.out _ _ ⟨(blk_cell BK336.out 0).trans rfl, (blk_cell BK336.out 1).trans rfl, (blk_cell BK337.out 0).trans rfl, (blk_cell BK337.out 1).trans rfl, (blk_cell BK337.out 2).trans rfl, (blk_cell BK337.out 3).trans rfl⟩ (fun hHeld => ?_)
            clear hK K
            refine norm_ (a' := ?_) ?_ ?_
            rotate_left
            ·
             show Act.put _ (some 79) _ = _
             simp only [fr_]
             rfl
            refine one_ (i := 5) (N := some 13) #[t_,t_,t_,t_,t_,t_,f_] rfl rfl (by kernel_rfl) (by decide) (fun K hK => ?_)
            refine box_step ?hg (N := 13) ?hd (cs := #[.slice none 0 0, .bool false]) (t := 39) ?hr ?_; (case hd => rfl); (case hg => rfl); (case hr => first | (go_simp; done) | (go_simp; rfl))
            intro gb407 hg w138 hbox hb
            have n0_ := Aside0.mk (Kd.S_below (sp_ HO352.out) hb)
            have n1_ := Aside0.mk (Kd.S_below (sp_ HO369.out) hb)
            have n2_ := Aside0.mk (Kd.S_below (sp_ HO395.out) hb)
            have n3_ := Aside0.mk (Kd.R_below (rp_ HO399.out) hb)
            have n4_ := Aside0.mk (Kd.S_below (sp_ HO405.out) hb)
            have n5_ := Aside0.mk (bb_ BK336.out hb)
            have n6_ := Aside0.mk (bb_ BK337.out hb)
            have n7_ := Aside0.mk (bb_ BK354.out hb)
            have n8_ := Aside0.mk (bb_ BK366.out hb)
            have n9_ := Aside0.mk (bb_ BK371.out hb)
            have n10_ := Aside0.mk (below_step (by repeat (first | (with_reducible first | exact HB.out | apply ba_ | apply bn_ | apply bd_ | refine below_set ?_ GE336.out | refine below_set ?_ GE337.out | refine below_set ?_ GE354.out | refine below_set ?_ GE366.out | refine below_set ?_ GE371.out) | exact HB.out)) hb)
            have n11_ := Aside0.mk (hbox)
            have n12_ := Aside0.mk ((by rw [hg]; exact (below_size (by repeat (first | (with_reducible first | exact HB.out | apply ba_ | apply bn_ | apply bd_ | refine below_set ?_ GE336.out | refine below_set ?_ GE337.out | refine below_set ?_ GE354.out | refine below_set ?_ GE366.out | refine below_set ?_ GE371.out) | exact HB.out))) : w.heap.size ≤ gb407))
            have n13_ := Aside0.mk ((by rw [hg]; exact (below_size (by repeat (first | (with_reducible first | exact HB.out | apply ba_ | apply bn_ | apply bd_ | refine below_set ?_ GE336.out | refine below_set ?_ GE337.out | refine below_set ?_ GE354.out | refine below_set ?_ GE366.out | refine below_set ?_ GE371.out) | exact HB.out))) : w.heap.size ≤ gb407))
            have n14_ := Aside0.mk (nl_ BK336.out hg)
            have n15_ := Aside0.mk (ng_ BK336.out hg)
            have n16_ := Aside0.mk (nl_ BK337.out hg)
            have n17_ := Aside0.mk (ng_ BK337.out hg)
            have n18_ := Aside0.mk (nl_ BK354.out hg)
            have n19_ := Aside0.mk (ng_ BK354.out hg)
            have n20_ := Aside0.mk (nl_ BK366.out hg)
            have n21_ := Aside0.mk (ng_ BK366.out hg)
            have n22_ := Aside0.mk (nl_ BK371.out hg)
            have n23_ := Aside0.mk (ng_ BK371.out hg)
            clear HO352
            clear HO369
            clear HO395
            clear HO399
            clear HO405
            clear BK336
            clear BK337
            clear BK354
            clear BK366
            clear BK371
            clear HB
            have HO352 := n0_
            have HO369 := n1_
            have HO395 := n2_
            have HO399 := n3_
            have HO405 := n4_
            have BK336 := n5_
            have BK337 := n6_
            have BK354 := n7_
            have BK366 := n8_
            have BK371 := n9_
            have HB := n10_
            have BK407 := n11_
            have GW407 := n12_
            have GE407 := n13_
            have NB336_407 := n14_
            have NB407_336 := n15_
            have NB337_407 := n16_
            have NB407_337 := n17_
            have NB354_407 := n18_
            have NB407_354 := n19_
            have NB366_407 := n20_
            have NB407_366 := n21_
            have NB371_407 := n22_
            have NB407_371 := n23_
            clear n0_ n1_ n2_ n3_ n4_ n5_ n6_ n7_ n8_ n9_ n10_ n11_ n12_ n13_ n14_ n15_ n16_ n17_ n18_ n19_ n20_ n21_ n22_ n23_
            clear hb hbox hg
            refine hK.out _ _ ⟨(blk_cell BK336.out 0).trans rfl, (blk_cell BK336.out 1).trans rfl, (blk_cell BK337.out 0).trans rfl, (blk_cell BK337.out 1).trans rfl, (blk_cell BK337.out 2).trans rfl, (blk_cell BK337.out 3).trans rfl⟩ (fun hHeld => ?_)
            clear hK K
            refine norm_ (a' := ?_) ?_ ?_
            rotate_left
            ·
             show Act.put _ (some 13) _ = _
             simp only [fr_]
             rfl
            exact norm_ (by simp only [putAll, Act.put, List.setIfInBounds_toArray, List.set_cons_zero, List.set_cons_succ]) (hCont (.slice Ao134 t393.length co134, .slice Ao135 t397.length co135, v404, gb407) _ ⟨hHeld, (by (with_reducible repeat (first | apply Kd.S_alloc | apply Kd.S_drewN | apply Kd.S_drew)); exact Kd.S_mono HO352.out (fun _ hk => ⟨hk.1.1.1.1, ⟨hk.1.1.1.2.2.2.2.1, ⟨hk.1.1.1.2.2.2.2.2, ⟨hk.1.1.1.2.1, ⟨hk.1.1.1.2.2.1, hk.1.1.1.2.2.2.1⟩⟩⟩⟩⟩)), (by (with_reducible repeat (first | apply Kd.S_alloc | apply Kd.S_drewN | apply Kd.S_drew)); exact Kd.S_mono HO369.out (fun _ hk => ⟨hk.1.1.1.1, ⟨hk.1.1.1.2.1, ⟨hk.1.1.1.2.2.1, hk.1.1.1.2.2.2⟩⟩⟩)), (by (with_reducible repeat (first | apply Kd.S_alloc | apply Kd.S_drewN | apply Kd.S_drew)); exact Kd.S_mono HO395.out (fun _ hk => hk.1.1.2)), (by (with_reducible repeat (first | apply Kd.R_alloc | apply Kd.R_drewN | apply Kd.R_drew)); exact Kd.R_mono HO399.out (fun _ hk => trivial)), (by (with_reducible repeat (first | apply Kd.S_alloc | apply Kd.S_drewN | apply Kd.S_drew)); exact Kd.S_mono HO405.out (fun _ hk => hk.2)), (pb_ BK336.out), (pb_ BK337.out), (pb_ BK354.out), (pb_ BK366.out), (pb_ BK371.out), (pb_ BK407.out), GW407.out, GE407.out, NB336_407.out, NB407_336.out, NB337_407.out, NB407_337.out, NB354_407.out, NB407_354.out, NB366_407.out, NB407_366.out, NB371_407.out, NB407_371.out, (by repeat (first | (with_reducible first | exact HB.out | apply ba_ | apply bn_ | apply bd_ | refine below_set ?_ GE336.out | refine below_set ?_ GE337.out | refine below_set ?_ GE354.out | refine below_set ?_ GE366.out | refine below_set ?_ GE371.out | refine below_set ?_ GE407.out) | exact HB.out))⟩)
           skip
           refine box_step ?hg (N := 13) ?hd (cs := #[.slice none 0 0, .bool false]) (t := 39) ?hr ?_; (case hd => rfl); (case hg => rfl); (case hr => first | (go_simp; done) | (go_simp; rfl))
           intro gb407 hg w134 hbox hb
           have n0_ := Aside0.mk (Kd.S_below (sp_ HO352.out) hb)
           have n1_ := Aside0.mk (Kd.S_below (sp_ HO369.out) hb)
           have n2_ := Aside0.mk (Kd.S_below (sp_ HO395.out) hb)
           have n3_ := Aside0.mk (Kd.R_below (rp_ HO399.out) hb)
           have n4_ := Aside0.mk (bb_ BK336.out hb)
           have n5_ := Aside0.mk (bb_ BK337.out hb)
           have n6_ := Aside0.mk (bb_ BK354.out hb)
           have n7_ := Aside0.mk (bb_ BK366.out hb)
           have n8_ := Aside0.mk (bb_ BK371.out hb)
           have n9_ := Aside0.mk (below_step (by repeat (first | (with_reducible first | exact HB.out | apply ba_ | apply bn_ | apply bd_ | refine below_set ?_ GE336.out | refine below_set ?_ GE337.out | refine below_set ?_ GE354.out | refine below_set ?_ GE366.out | refine below_set ?_ GE371.out) | exact HB.out)) hb)
           have n10_ := Aside0.mk (hbox)
           have n11_ := Aside0.mk ((by rw [hg]; exact (below_size (by repeat (first | (with_reducible first | exact HB.out | apply ba_ | apply bn_ | apply bd_ | refine below_set ?_ GE336.out | refine below_set ?_ GE337.out | refine below_set ?_ GE354.out | refine below_set ?_ GE366.out | refine below_set ?_ GE371.out) | exact HB.out))) : w.heap.size ≤ gb407))
           have n12_ := Aside0.mk ((by rw [hg]; exact (below_size (by repeat (first | (with_reducible first | exact HB.out | apply ba_ | apply bn_ | apply bd_ | refine below_set ?_ GE336.out | refine below_set ?_ GE337.out | refine below_set ?_ GE354.out | refine below_set ?_ GE366.out | refine below_set ?_ GE371.out) | exact HB.out))) : w.heap.size ≤ gb407))
           have n13_ := Aside0.mk (nl_ BK336.out hg)
           have n14_ := Aside0.mk (ng_ BK336.out hg)
           have n15_ := Aside0.mk (nl_ BK337.out hg)
           have n16_ := Aside0.mk (ng_ BK337.out hg)
           have n17_ := Aside0.mk (nl_ BK354.out hg)
           have n18_ := Aside0.mk (ng_ BK354.out hg)
           have n19_ := Aside0.mk (nl_ BK366.out hg)
           have n20_ := Aside0.mk (ng_ BK366.out hg)
           have n21_ := Aside0.mk (nl_ BK371.out hg)
           have n22_ := Aside0.mk (ng_ BK371.out hg)
           clear HO352
           clear HO369
           clear HO395
           clear HO399
           clear BK336
           clear BK337
           clear BK354
           clear BK366
           clear BK371
           clear HB
           have HO352 := n0_
           have HO369 := n1_
           have HO395 := n2_
           have HO399 := n3_
           have BK336 := n4_
           have BK337 := n5_
           have BK354 := n6_
           have BK366 := n7_
           have BK371 := n8_
           have HB := n9_
           have BK407 := n10_
           have GW407 := n11_
           have GE407 := n12_
           have NB336_407 := n13_
           have NB407_336 := n14_
           have NB337_407 := n15_
           have NB407_337 := n16_
           have NB354_407 := n17_
           have NB407_354 := n18_
           have NB366_407 := n19_
           have NB407_366 := n20_
           have NB371_407 := n21_
           have NB407_371 := n22_
           clear n0_ n1_ n2_ n3_ n4_ n5_ n6_ n7_ n8_ n9_ n10_ n11_ n12_ n13_ n14_ n15_ n16_ n17_ n18_ n19_ n20_ n21_ n22_
           clear hb hbox hg
           obtain ⟨Ao135, co135, eo135⟩ := Kd.S_slice HO395.out
           (first | subst eo135 | (injection eo135 with f1_ f2_ f3_; have f4_ := f1_.symm; have f5_ := f3_.symm; clear f1_ f2_ f3_; subst f4_; subst f5_))
           obtain ⟨Ao136, co136, eo136⟩ := Kd.R_slice HO399.out
           (first | subst eo136 | (injection eo136 with f1_ f2_ f3_; have f4_ := f1_.symm; have f5_ := f3_.symm; clear f1_ f2_ f3_; subst f4_; subst f5_))
           refine hK.out _ _ ⟨(blk_cell BK336.out 0).trans rfl, (blk_cell BK336.out 1).trans rfl, (blk_cell BK337.out 0).trans rfl, (blk_cell BK337.out 1).trans rfl, (blk_cell BK337.out 2).trans rfl, (blk_cell BK337.out 3).trans rfl⟩ (fun hHeld => ?_)
           clear hK K
           refine norm_ (a' := ?_) ?_ ?_
           rotate_left
           ·
            show Act.put _ (some 13) _ = _
            simp only [fr_]
            rfl
           refine one_ (i := 4) (N := some 79) #[t_,t_,t_,t_,t_,t_,f_] rfl rfl (by kernel_rfl) (by decide) (fun K hK => ?_)
           refine goes_ Try.func25 (by kernel_rfl) rfl #[.agg #[.slice Ao135 t393.length co135, .bool t396], .agg #[.slice Ao136 t397.length co136, .int .i64 t400, .int .i64 t401, .string t402]] (by rfl) rfl rfl (by (try simp only [mp_]); first | done | rfl | (simp only [List.length_drop, List.length_take]; rfl)) ?_
           with_reducible refine (impl_Tell.calls k _ _ t393 t396 _ _ t397 t400 t401 t402 t403 t406 _ ?side1 ?side2 ?side3 ?side4 A44.out).mono ?_
           (case side1 => repeat (first | exact (Kd.S_reads' HO395.out).2.2 | (with_reducible first | refine ca_ ?_ _ | refine cn_ ?_ _ | refine cd_ ?_)))
           (case side2 => exact (Kd.S_reads' HO395.out).2.1)
           (case side3 => repeat (first | exact (Kd.R_reads' HO399.out).2.2 | (with_reducible first | refine ca_ ?_ _ | refine cn_ ?_ _ | refine cd_ ?_)))
           (case side4 => exact (Kd.R_reads' HO399.out).2.1)
           rintro e w137 ⟨v404, rfl, ho0, hb⟩
           refine ⟨_, rfl, ?_⟩
           obtain ⟨nz138, hz138⟩ := Kd.S_name ho0
           have n0_ := Aside0.mk (Kd.S_below (Kd.S_ltz hz138 (sp_ HO352.out)) hb)
           have n1_ := Aside0.mk (Kd.S_below (Kd.S_ltz hz138 (sp_ HO369.out)) hb)
           have n2_ := Aside0.mk (Kd.S_below (Kd.S_ltz hz138 (sp_ HO395.out)) hb)
           have n3_ := Aside0.mk (Kd.R_below (Kd.R_ltz hz138 (rp_ HO399.out)) hb)
           have n4_ := Aside0.mk (Kd.S_lower (Kd.S_newB (Kd.S_gez hz138 ho0) (g := gb366) (o := .cells #[.slice Ao86 t360.length co86, .int .i64 t363, .int .i64 t364, .string t365] 44 (0, 0)) (pb_ BK366.out)) (below_size (by repeat (first | (with_reducible first | exact HB.out | apply ba_ | apply bn_ | apply bd_ | refine below_set ?_ GE336.out | refine below_set ?_ GE337.out | refine below_set ?_ GE354.out | refine below_set ?_ GE366.out | refine below_set ?_ GE371.out | refine below_set ?_ GE407.out) | exact HB.out))))
           have n5_ := Aside0.mk (bb_ BK336.out hb)
           have n6_ := Aside0.mk (bb_ BK337.out hb)
           have n7_ := Aside0.mk (bb_ BK354.out hb)
           have n8_ := Aside0.mk (bb_ BK366.out hb)
           have n9_ := Aside0.mk (bb_ BK371.out hb)
           have n10_ := Aside0.mk (bb_ BK407.out hb)
           have n11_ := Aside0.mk (below_step (by repeat (first | (with_reducible first | exact HB.out | apply ba_ | apply bn_ | apply bd_ | refine below_set ?_ GE336.out | refine below_set ?_ GE337.out | refine below_set ?_ GE354.out | refine below_set ?_ GE366.out | refine below_set ?_ GE371.out | refine below_set ?_ GE407.out) | exact HB.out)) hb)
           clear HO352
           clear HO369
           clear HO395
           clear HO399
           clear BK336
           clear BK337
           clear BK354
           clear BK366
           clear BK371
           clear BK407
           clear HB
           have HO352 := n0_
           have HO369 := n1_
           have HO395 := n2_
           have HO399 := n3_
           have HO405 := n4_
           have BK336 := n5_
           have BK337 := n6_
           have BK354 := n7_
           have BK366 := n8_
           have BK371 := n9_
           have BK407 := n10_
           have HB := n11_
           clear n0_ n1_ n2_ n3_ n4_ n5_ n6_ n7_ n8_ n9_ n10_ n11_
           (try clear hb)
           (try clear hb2)
           (try clear hk)
           (try clear hi)
           (try clear ho0)
           refine hK.out _ _ ⟨(blk_cell BK336.out 0).trans rfl, (blk_cell BK336.out 1).trans rfl, (blk_cell BK337.out 0).trans rfl, (blk_cell BK337.out 1).trans rfl, (blk_cell BK337.out 2).trans rfl, (blk_cell BK337.out 3).trans rfl⟩ (fun hHeld => ?_)
           clear hK K
           refine norm_ (a' := ?_) ?_ ?_
           rotate_left
           ·
            show Act.put _ (some 79) _ = _
            simp only [fr_]
            rfl
           exact norm_ (by simp only [putAll, Act.put, List.setIfInBounds_toArray, List.set_cons_zero, List.set_cons_succ]) (hCont (.slice Ao135 t393.length co135, .slice Ao136 t397.length co136, v404, gb407) _ ⟨hHeld, (by (with_reducible repeat (first | apply Kd.S_alloc | apply Kd.S_drewN | apply Kd.S_drew)); exact Kd.S_mono HO352.out (fun _ hk => ⟨hk.1.1.1.1, ⟨hk.1.1.1.2.2.2.2.1, ⟨hk.1.1.1.2.2.2.2.2, ⟨hk.1.1.1.2.1, ⟨hk.1.1.1.2.2.1, hk.1.1.1.2.2.2.1⟩⟩⟩⟩⟩)), (by (with_reducible repeat (first | apply Kd.S_alloc | apply Kd.S_drewN | apply Kd.S_drew)); exact Kd.S_mono HO369.out (fun _ hk => ⟨hk.1.1.1.1, ⟨hk.1.1.1.2.1, ⟨hk.1.1.1.2.2.1, hk.1.1.1.2.2.2⟩⟩⟩)), (by (with_reducible repeat (first | apply Kd.S_alloc | apply Kd.S_drewN | apply Kd.S_drew)); exact Kd.S_mono HO395.out (fun _ hk => hk.1.1.2)), (by (with_reducible repeat (first | apply Kd.R_alloc | apply Kd.R_drewN | apply Kd.R_drew)); exact Kd.R_mono HO399.out (fun _ hk => trivial)), (by (with_reducible repeat (first | apply Kd.S_alloc | apply Kd.S_drewN | apply Kd.S_drew)); exact Kd.S_mono HO405.out (fun _ hk => hk.2)), (pb_ BK336.out), (pb_ BK337.out), (pb_ BK354.out), (pb_ BK366.out), (pb_ BK371.out), (pb_ BK407.out), GW407.out, GE407.out, NB336_407.out, NB407_336.out, NB337_407.out, NB407_337.out, NB354_407.out, NB407_354.out, NB366_407.out, NB407_366.out, NB371_407.out, NB407_371.out, (by repeat (first | (with_reducible first | exact HB.out | apply ba_ | apply bn_ | apply bd_ | refine below_set ?_ GE336.out | refine below_set ?_ GE337.out | refine below_set ?_ GE354.out | refine below_set ?_ GE366.out | refine below_set ?_ GE371.out | refine below_set ?_ GE407.out) | exact HB.out))⟩)
          skip
          refine box_step ?hg (N := 13) ?hd (cs := #[.slice none 0 0, .bool false]) (t := 39) ?hr ?_; (case hd => rfl); (case hg => rfl); (case hr => first | (go_simp; done) | (go_simp; rfl))
          intro gb407 hg w132 hbox hb
          have n0_ := Aside0.mk (Kd.S_below (sp_ HO352.out) hb)
          have n1_ := Aside0.mk (Kd.S_below (sp_ HO369.out) hb)
          have n2_ := Aside0.mk (Kd.S_below (sp_ HO395.out) hb)
          have n3_ := Aside0.mk (bb_ BK336.out hb)
          have n4_ := Aside0.mk (bb_ BK337.out hb)
          have n5_ := Aside0.mk (bb_ BK354.out hb)
          have n6_ := Aside0.mk (bb_ BK366.out hb)
          have n7_ := Aside0.mk (bb_ BK371.out hb)
          have n8_ := Aside0.mk (below_step (by repeat (first | (with_reducible first | exact HB.out | apply ba_ | apply bn_ | apply bd_ | refine below_set ?_ GE336.out | refine below_set ?_ GE337.out | refine below_set ?_ GE354.out | refine below_set ?_ GE366.out | refine below_set ?_ GE371.out) | exact HB.out)) hb)
          have n9_ := Aside0.mk (hbox)
          have n10_ := Aside0.mk ((by rw [hg]; exact (below_size (by repeat (first | (with_reducible first | exact HB.out | apply ba_ | apply bn_ | apply bd_ | refine below_set ?_ GE336.out | refine below_set ?_ GE337.out | refine below_set ?_ GE354.out | refine below_set ?_ GE366.out | refine below_set ?_ GE371.out) | exact HB.out))) : w.heap.size ≤ gb407))
          have n11_ := Aside0.mk ((by rw [hg]; exact (below_size (by repeat (first | (with_reducible first | exact HB.out | apply ba_ | apply bn_ | apply bd_ | refine below_set ?_ GE336.out | refine below_set ?_ GE337.out | refine below_set ?_ GE354.out | refine below_set ?_ GE366.out | refine below_set ?_ GE371.out) | exact HB.out))) : w.heap.size ≤ gb407))
          have n12_ := Aside0.mk (nl_ BK336.out hg)
          have n13_ := Aside0.mk (ng_ BK336.out hg)
          have n14_ := Aside0.mk (nl_ BK337.out hg)
          have n15_ := Aside0.mk (ng_ BK337.out hg)
          have n16_ := Aside0.mk (nl_ BK354.out hg)
          have n17_ := Aside0.mk (ng_ BK354.out hg)
          have n18_ := Aside0.mk (nl_ BK366.out hg)
          have n19_ := Aside0.mk (ng_ BK366.out hg)
          have n20_ := Aside0.mk (nl_ BK371.out hg)
          have n21_ := Aside0.mk (ng_ BK371.out hg)
          clear HO352
          clear HO369
          clear HO395
          clear BK336
          clear BK337
          clear BK354
          clear BK366
          clear BK371
          clear HB
          have HO352 := n0_
          have HO369 := n1_
          have HO395 := n2_
          have BK336 := n3_
          have BK337 := n4_
          have BK354 := n5_
          have BK366 := n6_
          have BK371 := n7_
          have HB := n8_
          have BK407 := n9_
          have GW407 := n10_
          have GE407 := n11_
          have NB336_407 := n12_
          have NB407_336 := n13_
          have NB337_407 := n14_
          have NB407_337 := n15_
          have NB354_407 := n16_
          have NB407_354 := n17_
          have NB366_407 := n18_
          have NB407_366 := n19_
          have NB371_407 := n20_
          have NB407_371 := n21_
          clear n0_ n1_ n2_ n3_ n4_ n5_ n6_ n7_ n8_ n9_ n10_ n11_ n12_ n13_ n14_ n15_ n16_ n17_ n18_ n19_ n20_ n21_
          clear hb hbox hg
          refine hK.out _ _ ⟨(blk_cell BK336.out 0).trans rfl, (blk_cell BK336.out 1).trans rfl, (blk_cell BK337.out 0).trans rfl, (blk_cell BK337.out 1).trans rfl, (blk_cell BK337.out 2).trans rfl, (blk_cell BK337.out 3).trans rfl⟩ (fun hHeld => ?_)
          clear hK K
          refine norm_ (a' := ?_) ?_ ?_
          rotate_left
          ·
           show Act.put _ (some 13) _ = _
           simp only [fr_]
           rfl
          refine one_ (i := 3) (N := some 78) #[t_,t_,t_,t_,f_,t_,f_] rfl rfl (by kernel_rfl) (by decide) (fun K hK => ?_)
          refine goes_ Try.func24 (by kernel_rfl) rfl #[.agg #[.slice A1_0 l1_0.length c1_0, .int .i64 a1_1, .int .i64 a1_2, .string a1_3]] (by rfl) rfl rfl (by (try simp only [mp_]); first | done | rfl | (simp only [List.length_drop, List.length_take]; rfl)) ?_
          with_reducible refine (laws_toAlarm.calls k _ _ l1_0 a1_1 a1_2 a1_3 t397 t400 t401 t402 _ ?side1 ?side2 A43.out).mono ?_
          (case side1 => repeat (first | exact (Kd.C_below HR1_0.out HB.out) | (with_reducible first | refine ca_ ?_ _ | refine cn_ ?_ _ | refine cd_ ?_)))
          (case side2 => exact HC1_0.out)
          rintro e w133 ⟨v398, rfl, ho0, hb⟩
          refine ⟨_, rfl, ?_⟩
          obtain ⟨nz134, hz134⟩ := Kd.R_name ho0
          have n0_ := Aside0.mk (Kd.S_below (Kd.S_ltz hz134 (sp_ HO352.out)) hb)
          have n1_ := Aside0.mk (Kd.S_below (Kd.S_ltz hz134 (sp_ HO369.out)) hb)
          have n2_ := Aside0.mk (Kd.S_below (Kd.S_ltz hz134 (sp_ HO395.out)) hb)
          have n3_ := Aside0.mk (Kd.R_lower (Kd.R_gez hz134 ho0) (below_size (by repeat (first | (with_reducible first | exact HB.out | apply ba_ | apply bn_ | apply bd_ | refine below_set ?_ GE336.out | refine below_set ?_ GE337.out | refine below_set ?_ GE354.out | refine below_set ?_ GE366.out | refine below_set ?_ GE371.out | refine below_set ?_ GE407.out) | exact HB.out))))
          have n4_ := Aside0.mk (bb_ BK336.out hb)
          have n5_ := Aside0.mk (bb_ BK337.out hb)
          have n6_ := Aside0.mk (bb_ BK354.out hb)
          have n7_ := Aside0.mk (bb_ BK366.out hb)
          have n8_ := Aside0.mk (bb_ BK371.out hb)
          have n9_ := Aside0.mk (bb_ BK407.out hb)
          have n10_ := Aside0.mk (below_step (by repeat (first | (with_reducible first | exact HB.out | apply ba_ | apply bn_ | apply bd_ | refine below_set ?_ GE336.out | refine below_set ?_ GE337.out | refine below_set ?_ GE354.out | refine below_set ?_ GE366.out | refine below_set ?_ GE371.out | refine below_set ?_ GE407.out) | exact HB.out)) hb)
          clear HO352
          clear HO369
          clear HO395
          clear BK336
          clear BK337
          clear BK354
          clear BK366
          clear BK371
          clear BK407
          clear HB
          have HO352 := n0_
          have HO369 := n1_
          have HO395 := n2_
          have HO399 := n3_
          have BK336 := n4_
          have BK337 := n5_
          have BK354 := n6_
          have BK366 := n7_
          have BK371 := n8_
          have BK407 := n9_
          have HB := n10_
          clear n0_ n1_ n2_ n3_ n4_ n5_ n6_ n7_ n8_ n9_ n10_
          (try clear hb)
          (try clear hb2)
          (try clear hk)
          (try clear hi)
          (try clear ho0)
          obtain ⟨Ao135, co135, eo135⟩ := Kd.S_slice HO395.out
          (first | subst eo135 | (injection eo135 with f1_ f2_ f3_; have f4_ := f1_.symm; have f5_ := f3_.symm; clear f1_ f2_ f3_; subst f4_; subst f5_))
          obtain ⟨Ao136, co136, eo136⟩ := Kd.R_slice HO399.out
          (first | subst eo136 | (injection eo136 with f1_ f2_ f3_; have f4_ := f1_.symm; have f5_ := f3_.symm; clear f1_ f2_ f3_; subst f4_; subst f5_))
          refine hK.out _ _ ⟨(blk_cell BK336.out 0).trans rfl, (blk_cell BK336.out 1).trans rfl, (blk_cell BK337.out 0).trans rfl, (blk_cell BK337.out 1).trans rfl, (blk_cell BK337.out 2).trans rfl, (blk_cell BK337.out 3).trans rfl⟩ (fun hHeld => ?_)
          clear hK K
          refine norm_ (a' := ?_) ?_ ?_
          rotate_left
          ·
           show Act.put _ (some 78) _ = _
           simp only [fr_]
           rfl
          refine one_ (i := 4) (N := some 79) #[t_,t_,t_,t_,t_,t_,f_] rfl rfl (by kernel_rfl) (by decide) (fun K hK => ?_)
          refine goes_ Try.func25 (by kernel_rfl) rfl #[.agg #[.slice Ao135 t393.length co135, .bool t396], .agg #[.slice Ao136 t397.length co136, .int .i64 t400, .int .i64 t401, .string t402]] (by rfl) rfl rfl (by (try simp only [mp_]); first | done | rfl | (simp only [List.length_drop, List.length_take]; rfl)) ?_
          with_reducible refine (impl_Tell.calls k _ _ t393 t396 _ _ t397 t400 t401 t402 t403 t406 _ ?side1 ?side2 ?side3 ?side4 A44.out).mono ?_
          (case side1 => repeat (first | exact (Kd.S_reads' HO395.out).2.2 | (with_reducible first | refine ca_ ?_ _ | refine cn_ ?_ _ | refine cd_ ?_)))
          (case side2 => exact (Kd.S_reads' HO395.out).2.1)
          (case side3 => repeat (first | exact (Kd.R_reads' HO399.out).2.2 | (with_reducible first | refine ca_ ?_ _ | refine cn_ ?_ _ | refine cd_ ?_)))
          (case side4 => exact (Kd.R_reads' HO399.out).2.1)
          rintro e w137 ⟨v404, rfl, ho0, hb⟩
          refine ⟨_, rfl, ?_⟩
          obtain ⟨nz138, hz138⟩ := Kd.S_name ho0
          have n0_ := Aside0.mk (Kd.S_below (Kd.S_ltz hz138 (sp_ HO352.out)) hb)
          have n1_ := Aside0.mk (Kd.S_below (Kd.S_ltz hz138 (sp_ HO369.out)) hb)
          have n2_ := Aside0.mk (Kd.S_below (Kd.S_ltz hz138 (sp_ HO395.out)) hb)
          have n3_ := Aside0.mk (Kd.R_below (Kd.R_ltz hz138 (rp_ HO399.out)) hb)
          have n4_ := Aside0.mk (Kd.S_lower (Kd.S_newB (Kd.S_gez hz138 ho0) (g := gb366) (o := .cells #[.slice Ao86 t360.length co86, .int .i64 t363, .int .i64 t364, .string t365] 44 (0, 0)) (pb_ BK366.out)) (below_size (by repeat (first | (with_reducible first | exact HB.out | apply ba_ | apply bn_ | apply bd_ | refine below_set ?_ GE336.out | refine below_set ?_ GE337.out | refine below_set ?_ GE354.out | refine below_set ?_ GE366.out | refine below_set ?_ GE371.out | refine below_set ?_ GE407.out) | exact HB.out))))
          have n5_ := Aside0.mk (bb_ BK336.out hb)
          have n6_ := Aside0.mk (bb_ BK337.out hb)
          have n7_ := Aside0.mk (bb_ BK354.out hb)
          have n8_ := Aside0.mk (bb_ BK366.out hb)
          have n9_ := Aside0.mk (bb_ BK371.out hb)
          have n10_ := Aside0.mk (bb_ BK407.out hb)
          have n11_ := Aside0.mk (below_step (by repeat (first | (with_reducible first | exact HB.out | apply ba_ | apply bn_ | apply bd_ | refine below_set ?_ GE336.out | refine below_set ?_ GE337.out | refine below_set ?_ GE354.out | refine below_set ?_ GE366.out | refine below_set ?_ GE371.out | refine below_set ?_ GE407.out) | exact HB.out)) hb)
          clear HO352
          clear HO369
          clear HO395
          clear HO399
          clear BK336
          clear BK337
          clear BK354
          clear BK366
          clear BK371
          clear BK407
          clear HB
          have HO352 := n0_
          have HO369 := n1_
          have HO395 := n2_
          have HO399 := n3_
          have HO405 := n4_
          have BK336 := n5_
          have BK337 := n6_
          have BK354 := n7_
          have BK366 := n8_
          have BK371 := n9_
          have BK407 := n10_
          have HB := n11_
          clear n0_ n1_ n2_ n3_ n4_ n5_ n6_ n7_ n8_ n9_ n10_ n11_
          (try clear hb)
          (try clear hb2)
          (try clear hk)
          (try clear hi)
          (try clear ho0)
          refine hK.out _ _ ⟨(blk_cell BK336.out 0).trans rfl, (blk_cell BK336.out 1).trans rfl, (blk_cell BK337.out 0).trans rfl, (blk_cell BK337.out 1).trans rfl, (blk_cell BK337.out 2).trans rfl, (blk_cell BK337.out 3).trans rfl⟩ (fun hHeld => ?_)
          clear hK K
          refine norm_ (a' := ?_) ?_ ?_
          rotate_left
          ·
           show Act.put _ (some 79) _ = _
           simp only [fr_]
           rfl
          exact norm_ (by simp only [putAll, Act.put, List.setIfInBounds_toArray, List.set_cons_zero, List.set_cons_succ]) (hCont (.slice Ao135 t393.length co135, .slice Ao136 t397.length co136, v404, gb407) _ ⟨hHeld, (by (with_reducible repeat (first | apply Kd.S_alloc | apply Kd.S_drewN | apply Kd.S_drew)); exact Kd.S_mono HO352.out (fun _ hk => ⟨hk.1.1.1.1, ⟨hk.1.1.1.2.2.2.2.1, ⟨hk.1.1.1.2.2.2.2.2, ⟨hk.1.1.1.2.1, ⟨hk.1.1.1.2.2.1, hk.1.1.1.2.2.2.1⟩⟩⟩⟩⟩)), (by (with_reducible repeat (first | apply Kd.S_alloc | apply Kd.S_drewN | apply Kd.S_drew)); exact Kd.S_mono HO369.out (fun _ hk => ⟨hk.1.1.1.1, ⟨hk.1.1.1.2.1, ⟨hk.1.1.1.2.2.1, hk.1.1.1.2.2.2⟩⟩⟩)), (by (with_reducible repeat (first | apply Kd.S_alloc | apply Kd.S_drewN | apply Kd.S_drew)); exact Kd.S_mono HO395.out (fun _ hk => hk.1.1.2)), (by (with_reducible repeat (first | apply Kd.R_alloc | apply Kd.R_drewN | apply Kd.R_drew)); exact Kd.R_mono HO399.out (fun _ hk => trivial)), (by (with_reducible repeat (first | apply Kd.S_alloc | apply Kd.S_drewN | apply Kd.S_drew)); exact Kd.S_mono HO405.out (fun _ hk => hk.2)), (pb_ BK336.out), (pb_ BK337.out), (pb_ BK354.out), (pb_ BK366.out), (pb_ BK371.out), (pb_ BK407.out), GW407.out, GE407.out, NB336_407.out, NB407_336.out, NB337_407.out, NB407_337.out, NB354_407.out, NB407_354.out, NB366_407.out, NB407_366.out, NB371_407.out, NB407_371.out, (by repeat (first | (with_reducible first | exact HB.out | apply ba_ | apply bn_ | apply bd_ | refine below_set ?_ GE336.out | refine below_set ?_ GE337.out | refine below_set ?_ GE354.out | refine below_set ?_ GE366.out | refine below_set ?_ GE371.out | refine below_set ?_ GE407.out) | exact HB.out))⟩)
         skip
         refine box_step ?hg (N := 13) ?hd (cs := #[.slice none 0 0, .bool false]) (t := 39) ?hr ?_; (case hd => rfl); (case hg => rfl); (case hr => first | (go_simp; done) | (go_simp; rfl))
         intro gb407 hg w130 hbox hb
         have n0_ := Aside0.mk (Kd.S_below (sp_ HO352.out) hb)
         have n1_ := Aside0.mk (Kd.S_below (sp_ HO369.out) hb)
         have n2_ := Aside0.mk (bb_ BK336.out hb)
         have n3_ := Aside0.mk (bb_ BK337.out hb)
         have n4_ := Aside0.mk (bb_ BK354.out hb)
         have n5_ := Aside0.mk (bb_ BK366.out hb)
         have n6_ := Aside0.mk (bb_ BK371.out hb)
         have n7_ := Aside0.mk (below_step (by repeat (first | (with_reducible first | exact HB.out | apply ba_ | apply bn_ | apply bd_ | refine below_set ?_ GE336.out | refine below_set ?_ GE337.out | refine below_set ?_ GE354.out | refine below_set ?_ GE366.out | refine below_set ?_ GE371.out) | exact HB.out)) hb)
         have n8_ := Aside0.mk (hbox)
         have n9_ := Aside0.mk ((by rw [hg]; exact (below_size (by repeat (first | (with_reducible first | exact HB.out | apply ba_ | apply bn_ | apply bd_ | refine below_set ?_ GE336.out | refine below_set ?_ GE337.out | refine below_set ?_ GE354.out | refine below_set ?_ GE366.out | refine below_set ?_ GE371.out) | exact HB.out))) : w.heap.size ≤ gb407))
         have n10_ := Aside0.mk ((by rw [hg]; exact (below_size (by repeat (first | (with_reducible first | exact HB.out | apply ba_ | apply bn_ | apply bd_ | refine below_set ?_ GE336.out | refine below_set ?_ GE337.out | refine below_set ?_ GE354.out | refine below_set ?_ GE366.out | refine below_set ?_ GE371.out) | exact HB.out))) : w.heap.size ≤ gb407))
         have n11_ := Aside0.mk (nl_ BK336.out hg)
         have n12_ := Aside0.mk (ng_ BK336.out hg)
         have n13_ := Aside0.mk (nl_ BK337.out hg)
         have n14_ := Aside0.mk (ng_ BK337.out hg)
         have n15_ := Aside0.mk (nl_ BK354.out hg)
         have n16_ := Aside0.mk (ng_ BK354.out hg)
         have n17_ := Aside0.mk (nl_ BK366.out hg)
         have n18_ := Aside0.mk (ng_ BK366.out hg)
         have n19_ := Aside0.mk (nl_ BK371.out hg)
         have n20_ := Aside0.mk (ng_ BK371.out hg)
         clear HO352
         clear HO369
         clear BK336
         clear BK337
         clear BK354
         clear BK366
         clear BK371
         clear HB
         have HO352 := n0_
         have HO369 := n1_
         have BK336 := n2_
         have BK337 := n3_
         have BK354 := n4_
         have BK366 := n5_
         have BK371 := n6_
         have HB := n7_
         have BK407 := n8_
         have GW407 := n9_
         have GE407 := n10_
         have NB336_407 := n11_
         have NB407_336 := n12_
         have NB337_407 := n13_
         have NB407_337 := n14_
         have NB354_407 := n15_
         have NB407_354 := n16_
         have NB366_407 := n17_
         have NB407_366 := n18_
         have NB371_407 := n19_
         have NB407_371 := n20_
         clear n0_ n1_ n2_ n3_ n4_ n5_ n6_ n7_ n8_ n9_ n10_ n11_ n12_ n13_ n14_ n15_ n16_ n17_ n18_ n19_ n20_
         clear hb hbox hg
         refine hK.out _ _ ⟨(blk_cell BK336.out 0).trans rfl, (blk_cell BK336.out 1).trans rfl, (blk_cell BK337.out 0).trans rfl, (blk_cell BK337.out 1).trans rfl, (blk_cell BK337.out 2).trans rfl, (blk_cell BK337.out 3).trans rfl⟩ (fun hHeld => ?_)
         clear hK K
         refine norm_ (a' := ?_) ?_ ?_
         rotate_left
         ·
          show Act.put _ (some 13) _ = _
          simp only [fr_]
          rfl
         refine one_ (i := 1) (N := some 76) #[t_,t_,t_,f_,f_,t_,f_] rfl rfl (by kernel_rfl) (by decide) (fun K hK => ?_)
         refine goes_ Try.func23 (by kernel_rfl) rfl #[.agg #[.slice A0_0 l0_0.length c0_0, .bool a0_1]] (by rfl) rfl rfl (by (try simp only [mp_]); first | done | rfl | (simp only [List.length_drop, List.length_take]; rfl)) ?_
         with_reducible refine (laws_toSub.calls k _ _ l0_0 a0_1 t393 t396 _ ?side1 ?side2 A42.out).mono ?_
         (case side1 => repeat (first | exact (Kd.C_below HR0_0.out HB.out) | (with_reducible first | refine ca_ ?_ _ | refine cn_ ?_ _ | refine cd_ ?_)))
         (case side2 => exact HC0_0.out)
         rintro e w131 ⟨v394, rfl, ho0, hb⟩
         refine ⟨_, rfl, ?_⟩
         obtain ⟨nz132, hz132⟩ := Kd.S_name ho0
         have n0_ := Aside0.mk (Kd.S_below (Kd.S_ltz hz132 (sp_ HO352.out)) hb)
         have n1_ := Aside0.mk (Kd.S_below (Kd.S_ltz hz132 (sp_ HO369.out)) hb)
         have n2_ := Aside0.mk (Kd.S_lower (Kd.S_newB (Kd.S_gez hz132 ho0) (g := gb366) (o := .cells #[.slice Ao86 t360.length co86, .int .i64 t363, .int .i64 t364, .string t365] 44 (0, 0)) (pb_ BK366.out)) (below_size (by repeat (first | (with_reducible first | exact HB.out | apply ba_ | apply bn_ | apply bd_ | refine below_set ?_ GE336.out | refine below_set ?_ GE337.out | refine below_set ?_ GE354.out | refine below_set ?_ GE366.out | refine below_set ?_ GE371.out | refine below_set ?_ GE407.out) | exact HB.out))))
         have n3_ := Aside0.mk (bb_ BK336.out hb)
         have n4_ := Aside0.mk (bb_ BK337.out hb)
         have n5_ := Aside0.mk (bb_ BK354.out hb)
         have n6_ := Aside0.mk (bb_ BK366.out hb)
         have n7_ := Aside0.mk (bb_ BK371.out hb)
         have n8_ := Aside0.mk (bb_ BK407.out hb)
         have n9_ := Aside0.mk (below_step (by repeat (first | (with_reducible first | exact HB.out | apply ba_ | apply bn_ | apply bd_ | refine below_set ?_ GE336.out | refine below_set ?_ GE337.out | refine below_set ?_ GE354.out | refine below_set ?_ GE366.out | refine below_set ?_ GE371.out | refine below_set ?_ GE407.out) | exact HB.out)) hb)
         clear HO352
         clear HO369
         clear BK336
         clear BK337
         clear BK354
         clear BK366
         clear BK371
         clear BK407
         clear HB
         have HO352 := n0_
         have HO369 := n1_
         have HO395 := n2_
         have BK336 := n3_
         have BK337 := n4_
         have BK354 := n5_
         have BK366 := n6_
         have BK371 := n7_
         have BK407 := n8_
         have HB := n9_
         clear n0_ n1_ n2_ n3_ n4_ n5_ n6_ n7_ n8_ n9_
         (try clear hb)
         (try clear hb2)
         (try clear hk)
         (try clear hi)
         (try clear ho0)
         refine hK.out _ _ ⟨(blk_cell BK336.out 0).trans rfl, (blk_cell BK336.out 1).trans rfl, (blk_cell BK337.out 0).trans rfl, (blk_cell BK337.out 1).trans rfl, (blk_cell BK337.out 2).trans rfl, (blk_cell BK337.out 3).trans rfl⟩ (fun hHeld => ?_)
         clear hK K
         refine norm_ (a' := ?_) ?_ ?_
         rotate_left
         ·
          show Act.put _ (some 76) _ = _
          simp only [fr_]
          rfl
         refine one_ (i := 3) (N := some 78) #[t_,t_,t_,t_,f_,t_,f_] rfl rfl (by kernel_rfl) (by decide) (fun K hK => ?_)
         refine goes_ Try.func24 (by kernel_rfl) rfl #[.agg #[.slice A1_0 l1_0.length c1_0, .int .i64 a1_1, .int .i64 a1_2, .string a1_3]] (by rfl) rfl rfl (by (try simp only [mp_]); first | done | rfl | (simp only [List.length_drop, List.length_take]; rfl)) ?_
         with_reducible refine (laws_toAlarm.calls k _ _ l1_0 a1_1 a1_2 a1_3 t397 t400 t401 t402 _ ?side1 ?side2 A43.out).mono ?_
         (case side1 => repeat (first | exact (Kd.C_below HR1_0.out HB.out) | (with_reducible first | refine ca_ ?_ _ | refine cn_ ?_ _ | refine cd_ ?_)))
         (case side2 => exact HC1_0.out)
         rintro e w133 ⟨v398, rfl, ho0, hb⟩
         refine ⟨_, rfl, ?_⟩
         obtain ⟨nz134, hz134⟩ := Kd.R_name ho0
         have n0_ := Aside0.mk (Kd.S_below (Kd.S_ltz hz134 (sp_ HO352.out)) hb)
         have n1_ := Aside0.mk (Kd.S_below (Kd.S_ltz hz134 (sp_ HO369.out)) hb)
         have n2_ := Aside0.mk (Kd.S_below (Kd.S_ltz hz134 (sp_ HO395.out)) hb)
         have n3_ := Aside0.mk (Kd.R_lower (Kd.R_gez hz134 ho0) (below_size (by repeat (first | (with_reducible first | exact HB.out | apply ba_ | apply bn_ | apply bd_ | refine below_set ?_ GE336.out | refine below_set ?_ GE337.out | refine below_set ?_ GE354.out | refine below_set ?_ GE366.out | refine below_set ?_ GE371.out | refine below_set ?_ GE407.out) | exact HB.out))))
         have n4_ := Aside0.mk (bb_ BK336.out hb)
         have n5_ := Aside0.mk (bb_ BK337.out hb)
         have n6_ := Aside0.mk (bb_ BK354.out hb)
         have n7_ := Aside0.mk (bb_ BK366.out hb)
         have n8_ := Aside0.mk (bb_ BK371.out hb)
         have n9_ := Aside0.mk (bb_ BK407.out hb)
         have n10_ := Aside0.mk (below_step (by repeat (first | (with_reducible first | exact HB.out | apply ba_ | apply bn_ | apply bd_ | refine below_set ?_ GE336.out | refine below_set ?_ GE337.out | refine below_set ?_ GE354.out | refine below_set ?_ GE366.out | refine below_set ?_ GE371.out | refine below_set ?_ GE407.out) | exact HB.out)) hb)
         clear HO352
         clear HO369
         clear HO395
         clear BK336
         clear BK337
         clear BK354
         clear BK366
         clear BK371
         clear BK407
         clear HB
         have HO352 := n0_
         have HO369 := n1_
         have HO395 := n2_
         have HO399 := n3_
         have BK336 := n4_
         have BK337 := n5_
         have BK354 := n6_
         have BK366 := n7_
         have BK371 := n8_
         have BK407 := n9_
         have HB := n10_
         clear n0_ n1_ n2_ n3_ n4_ n5_ n6_ n7_ n8_ n9_ n10_
         (try clear hb)
         (try clear hb2)
         (try clear hk)
         (try clear hi)
         (try clear ho0)
         obtain ⟨Ao135, co135, eo135⟩ := Kd.S_slice HO395.out
         (first | subst eo135 | (injection eo135 with f1_ f2_ f3_; have f4_ := f1_.symm; have f5_ := f3_.symm; clear f1_ f2_ f3_; subst f4_; subst f5_))
         obtain ⟨Ao136, co136, eo136⟩ := Kd.R_slice HO399.out
         (first | subst eo136 | (injection eo136 with f1_ f2_ f3_; have f4_ := f1_.symm; have f5_ := f3_.symm; clear f1_ f2_ f3_; subst f4_; subst f5_))
         refine hK.out _ _ ⟨(blk_cell BK336.out 0).trans rfl, (blk_cell BK336.out 1).trans rfl, (blk_cell BK337.out 0).trans rfl, (blk_cell BK337.out 1).trans rfl, (blk_cell BK337.out 2).trans rfl, (blk_cell BK337.out 3).trans rfl⟩ (fun hHeld => ?_)
         clear hK K
         refine norm_ (a' := ?_) ?_ ?_
         rotate_left
         ·
          show Act.put _ (some 78) _ = _
          simp only [fr_]
          rfl
         refine one_ (i := 4) (N := some 79) #[t_,t_,t_,t_,t_,t_,f_] rfl rfl (by kernel_rfl) (by decide) (fun K hK => ?_)
         refine goes_ Try.func25 (by kernel_rfl) rfl #[.agg #[.slice Ao135 t393.length co135, .bool t396], .agg #[.slice Ao136 t397.length co136, .int .i64 t400, .int .i64 t401, .string t402]] (by rfl) rfl rfl (by (try simp only [mp_]); first | done | rfl | (simp only [List.length_drop, List.length_take]; rfl)) ?_
         with_reducible refine (impl_Tell.calls k _ _ t393 t396 _ _ t397 t400 t401 t402 t403 t406 _ ?side1 ?side2 ?side3 ?side4 A44.out).mono ?_
         (case side1 => repeat (first | exact (Kd.S_reads' HO395.out).2.2 | (with_reducible first | refine ca_ ?_ _ | refine cn_ ?_ _ | refine cd_ ?_)))
         (case side2 => exact (Kd.S_reads' HO395.out).2.1)
         (case side3 => repeat (first | exact (Kd.R_reads' HO399.out).2.2 | (with_reducible first | refine ca_ ?_ _ | refine cn_ ?_ _ | refine cd_ ?_)))
         (case side4 => exact (Kd.R_reads' HO399.out).2.1)
         rintro e w137 ⟨v404, rfl, ho0, hb⟩
         refine ⟨_, rfl, ?_⟩
         obtain ⟨nz138, hz138⟩ := Kd.S_name ho0
         have n0_ := Aside0.mk (Kd.S_below (Kd.S_ltz hz138 (sp_ HO352.out)) hb)
         have n1_ := Aside0.mk (Kd.S_below (Kd.S_ltz hz138 (sp_ HO369.out)) hb)
         have n2_ := Aside0.mk (Kd.S_below (Kd.S_ltz hz138 (sp_ HO395.out)) hb)
         have n3_ := Aside0.mk (Kd.R_below (Kd.R_ltz hz138 (rp_ HO399.out)) hb)
         have n4_ := Aside0.mk (Kd.S_lower (Kd.S_newB (Kd.S_gez hz138 ho0) (g := gb366) (o := .cells #[.slice Ao86 t360.length co86, .int .i64 t363, .int .i64 t364, .string t365] 44 (0, 0)) (pb_ BK366.out)) (below_size (by repeat (first | (with_reducible first | exact HB.out | apply ba_ | apply bn_ | apply bd_ | refine below_set ?_ GE336.out | refine below_set ?_ GE337.out | refine below_set ?_ GE354.out | refine below_set ?_ GE366.out | refine below_set ?_ GE371.out | refine below_set ?_ GE407.out) | exact HB.out))))
         have n5_ := Aside0.mk (bb_ BK336.out hb)
         have n6_ := Aside0.mk (bb_ BK337.out hb)
         have n7_ := Aside0.mk (bb_ BK354.out hb)
         have n8_ := Aside0.mk (bb_ BK366.out hb)
         have n9_ := Aside0.mk (bb_ BK371.out hb)
         have n10_ := Aside0.mk (bb_ BK407.out hb)
         have n11_ := Aside0.mk (below_step (by repeat (first | (with_reducible first | exact HB.out | apply ba_ | apply bn_ | apply bd_ | refine below_set ?_ GE336.out | refine below_set ?_ GE337.out | refine below_set ?_ GE354.out | refine below_set ?_ GE366.out | refine below_set ?_ GE371.out | refine below_set ?_ GE407.out) | exact HB.out)) hb)
         clear HO352
         clear HO369
         clear HO395
         clear HO399
         clear BK336
         clear BK337
         clear BK354
         clear BK366
         clear BK371
         clear BK407
         clear HB
         have HO352 := n0_
         have HO369 := n1_
         have HO395 := n2_
         have HO399 := n3_
         have HO405 := n4_
         have BK336 := n5_
         have BK337 := n6_
         have BK354 := n7_
         have BK366 := n8_
         have BK371 := n9_
         have BK407 := n10_
         have HB := n11_
         clear n0_ n1_ n2_ n3_ n4_ n5_ n6_ n7_ n8_ n9_ n10_ n11_
         (try clear hb)
         (try clear hb2)
         (try clear hk)
         (try clear hi)
         (try clear ho0)
         refine hK.out _ _ ⟨(blk_cell BK336.out 0).trans rfl, (blk_cell BK336.out 1).trans rfl, (blk_cell BK337.out 0).trans rfl, (blk_cell BK337.out 1).trans rfl, (blk_cell BK337.out 2).trans rfl, (blk_cell BK337.out 3).trans rfl⟩ (fun hHeld => ?_)
         clear hK K
         refine norm_ (a' := ?_) ?_ ?_
         rotate_left
         ·
          show Act.put _ (some 79) _ = _
          simp only [fr_]
          rfl
         exact norm_ (by simp only [putAll, Act.put, List.setIfInBounds_toArray, List.set_cons_zero, List.set_cons_succ]) (hCont (.slice Ao135 t393.length co135, .slice Ao136 t397.length co136, v404, gb407) _ ⟨hHeld, (by (with_reducible repeat (first | apply Kd.S_alloc | apply Kd.S_drewN | apply Kd.S_drew)); exact Kd.S_mono HO352.out (fun _ hk => ⟨hk.1.1.1.1, ⟨hk.1.1.1.2.2.2.2.1, ⟨hk.1.1.1.2.2.2.2.2, ⟨hk.1.1.1.2.1, ⟨hk.1.1.1.2.2.1, hk.1.1.1.2.2.2.1⟩⟩⟩⟩⟩)), (by (with_reducible repeat (first | apply Kd.S_alloc | apply Kd.S_drewN | apply Kd.S_drew)); exact Kd.S_mono HO369.out (fun _ hk => ⟨hk.1.1.1.1, ⟨hk.1.1.1.2.1, ⟨hk.1.1.1.2.2.1, hk.1.1.1.2.2.2⟩⟩⟩)), (by (with_reducible repeat (first | apply Kd.S_alloc | apply Kd.S_drewN | apply Kd.S_drew)); exact Kd.S_mono HO395.out (fun _ hk => hk.1.1.2)), (by (with_reducible repeat (first | apply Kd.R_alloc | apply Kd.R_drewN | apply Kd.R_drew)); exact Kd.R_mono HO399.out (fun _ hk => trivial)), (by (with_reducible repeat (first | apply Kd.S_alloc | apply Kd.S_drewN | apply Kd.S_drew)); exact Kd.S_mono HO405.out (fun _ hk => hk.2)), (pb_ BK336.out), (pb_ BK337.out), (pb_ BK354.out), (pb_ BK366.out), (pb_ BK371.out), (pb_ BK407.out), GW407.out, GE407.out, NB336_407.out, NB407_336.out, NB337_407.out, NB407_337.out, NB354_407.out, NB407_354.out, NB366_407.out, NB407_366.out, NB371_407.out, NB407_371.out, (by repeat (first | (with_reducible first | exact HB.out | apply ba_ | apply bn_ | apply bd_ | refine below_set ?_ GE336.out | refine below_set ?_ GE337.out | refine below_set ?_ GE354.out | refine below_set ?_ GE366.out | refine below_set ?_ GE371.out | refine below_set ?_ GE407.out) | exact HB.out))⟩)
        rintro ⟨v394, v398, v404, gb407⟩ w139 ⟨hS_, h0_, h1_, h2_, h3_, h4_, h5_, h6_, h7_, h8_, h9_, h10_, h11_, h12_, h13_, h14_, h15_, h16_, h17_, h18_, h19_, h20_, h21_, h22_, h23_⟩
        have n0_ : Aside0 (Kd.S k44 44 w139 w.heap.size (fun k_ => k_ ≠ gb366 ∧ k_ < nz107 ∧ k_ < nz112 ∧ k_ < nz74 ∧ k_ < nz84 ∧ k_ < nz94) (.slice Ao68 t350.length co68) t350) := ⟨h0_⟩
        have n1_ : Aside0 (Kd.S k44 44 w139 w.heap.size (fun k_ => k_ ≠ gb366 ∧ nz94 ≤ k_ ∧ k_ < nz107 ∧ k_ < nz112) (.slice Ao96 t367.length co96) t391) := ⟨h1_⟩
        have n2_ : Aside0 (Kd.S k44 44 w139 w.heap.size (fun k_ => k_ ≠ gb366) v394 t393) := ⟨h2_⟩
        have n3_ : Aside0 (Kd.R k164 164 w139 w.heap.size (fun _ => True) v398 t397) := ⟨h3_⟩
        have n4_ : Aside0 (Kd.S k44 44 w139 w.heap.size (fun k_ => k_ ≠ gb366) v404 t403) := ⟨h4_⟩
        have n5_ : Aside0 (w139.heap[gb336]? = some (.cells #[.slice A0_0 l0_0.length c0_0, .bool a0_1] 31 (0, 0))) := ⟨h5_⟩
        have n6_ : Aside0 (w139.heap[gb337]? = some (.cells #[.slice A1_0 l1_0.length c1_0, .int .i64 a1_1, .int .i64 a1_2, .string a1_3] 34 (0, 0))) := ⟨h6_⟩
        have n7_ : Aside0 (w139.heap[gb354]? = some (.cells #[.slice Ao68 t350.length co68, .bool t353] 39 (0, 0))) := ⟨h7_⟩
        have n8_ : Aside0 (w139.heap[gb366]? = some (.cells #[.slice Ao86 t360.length co86, .int .i64 t363, .int .i64 t364, .string t365] 44 (0, 0))) := ⟨h8_⟩
        have n9_ : Aside0 (w139.heap[gb371]? = some (.cells #[.slice Ao96 t367.length co96, .bool t370] 39 (0, 0))) := ⟨h9_⟩
        have n10_ : Aside0 (w139.heap[gb407]? = some (.cells #[.slice none 0 0, .bool false] 39 (0, 0))) := ⟨h10_⟩
        have n11_ : Aside0 (w.heap.size ≤ gb407) := ⟨h11_⟩
        have n12_ : Aside0 (w.heap.size ≤ gb407) := ⟨h12_⟩
        have n13_ : Aside0 (gb336 ≠ gb407) := ⟨h13_⟩
        have n14_ : Aside0 (gb407 ≠ gb336) := ⟨h14_⟩
        have n15_ : Aside0 (gb337 ≠ gb407) := ⟨h15_⟩
        have n16_ : Aside0 (gb407 ≠ gb337) := ⟨h16_⟩
        have n17_ : Aside0 (gb354 ≠ gb407) := ⟨h17_⟩
        have n18_ : Aside0 (gb407 ≠ gb354) := ⟨h18_⟩
        have n19_ : Aside0 (gb366 ≠ gb407) := ⟨h19_⟩
        have n20_ : Aside0 (gb407 ≠ gb366) := ⟨h20_⟩
        have n21_ : Aside0 (gb371 ≠ gb407) := ⟨h21_⟩
        have n22_ : Aside0 (gb407 ≠ gb371) := ⟨h22_⟩
        have n23_ : Aside0 (Below w.heap.size w w139) := ⟨h23_⟩
        clear HO352
        clear HO369
        clear BK336
        clear BK337
        clear BK354
        clear BK366
        clear BK371
        clear HB
        clear h0_ h1_ h2_ h3_ h4_ h5_ h6_ h7_ h8_ h9_ h10_ h11_ h12_ h13_ h14_ h15_ h16_ h17_ h18_ h19_ h20_ h21_ h22_ h23_
        have HO352 := n0_
        have HO369 := n1_
        have HO395 := n2_
        have HO399 := n3_
        have HO405 := n4_
        have BK336 := n5_
        have BK337 := n6_
        have BK354 := n7_
        have BK366 := n8_
        have BK371 := n9_
        have BK407 := n10_
        have GW407 := n11_
        have GE407 := n12_
        have NB336_407 := n13_
        have NB407_336 := n14_
        have NB337_407 := n15_
        have NB407_337 := n16_
        have NB354_407 := n17_
        have NB407_354 := n18_
        have NB366_407 := n19_
        have NB407_366 := n20_
        have NB371_407 := n21_
        have NB407_371 := n22_
        have HB := n23_
        clear n0_ n1_ n2_ n3_ n4_ n5_ n6_ n7_ n8_ n9_ n10_ n11_ n12_ n13_ n14_ n15_ n16_ n17_ n18_ n19_ n20_ n21_ n22_ n23_
        have hHeld : w139.cell? ⟨gb336, 0, none⟩ = some (.slice A0_0 l0_0.length c0_0) ∧ w139.cell? ⟨gb336, 1, none⟩ = some (.bool a0_1) ∧ w139.cell? ⟨gb337, 0, none⟩ = some (.slice A1_0 l1_0.length c1_0) ∧ w139.cell? ⟨gb337, 1, none⟩ = some (.int .i64 a1_1) ∧ w139.cell? ⟨gb337, 2, none⟩ = some (.int .i64 a1_2) ∧ w139.cell? ⟨gb337, 3, none⟩ = some (.string a1_3) := hS_
        obtain ⟨Ao140, co140, eo140⟩ := Kd.S_slice HO405.out
        (first | subst eo140 | (injection eo140 with f1_ f2_ f3_; have f4_ := f1_.symm; have f5_ := f3_.symm; clear f1_ f2_ f3_; subst f4_; subst f5_))
        refine norm_ (a' := ?_) ?_ ?_
        rotate_left
        ·
         simp only [putAll, Act.put, List.setIfInBounds_toArray, List.set_cons_zero, List.set_cons_succ]
         rfl
        refine one_ (i := 6) (N := none) #[t_,t_,t_,t_,t_,t_,t_] rfl rfl (by kernel_rfl) (by decide) (fun K hK => ?_)
        have hs141 : w139.cell? ⟨gb407, 0, none⟩ = some (.slice none 0 0) := (blk_cell BK407.out 0).trans rfl
        have hfs141 := blk_frozen BK407.out 0
        have hns141_0 := NB336_407.out
        have hns141_1 := NB337_407.out
        have hns141_2 := NB354_407.out
        have hns141_3 := NB366_407.out
        have hns141_4 := NB371_407.out
        have hms141_0 := NB407_336.out
        have hms141_1 := NB407_337.out
        have hms141_2 := NB407_354.out
        have hms141_3 := NB407_366.out
        have hms141_4 := NB407_371.out
        have hs142 : w139.cell? ⟨gb407, 1, none⟩ = some (.bool false) := (blk_cell BK407.out 1).trans rfl
        have hfs142 := blk_frozen BK407.out 1
        have hns142_0 := NB336_407.out
        have hns142_1 := NB337_407.out
        have hns142_2 := NB354_407.out
        have hns142_3 := NB366_407.out
        have hns142_4 := NB371_407.out
        have hms142_0 := NB407_336.out
        have hms142_1 := NB407_337.out
        have hms142_2 := NB407_354.out
        have hms142_3 := NB407_366.out
        have hms142_4 := NB407_371.out
        refine skip_ (w1 := ?_) (by rfl) rfl ?_ ?_
        rotate_left
        ·
         go_simp
         rfl
        refine hK.out _ _ ⟨((cell_far (p := ⟨gb407, _, none⟩) NB336_407.out _).trans (((cell_far (p := ⟨gb407, _, none⟩) NB336_407.out _).trans (hHeld.1)))), ((cell_far (p := ⟨gb407, _, none⟩) NB336_407.out _).trans (((cell_far (p := ⟨gb407, _, none⟩) NB336_407.out _).trans (hHeld.2.1)))), ((cell_far (p := ⟨gb407, _, none⟩) NB337_407.out _).trans (((cell_far (p := ⟨gb407, _, none⟩) NB337_407.out _).trans (hHeld.2.2.1)))), ((cell_far (p := ⟨gb407, _, none⟩) NB337_407.out _).trans (((cell_far (p := ⟨gb407, _, none⟩) NB337_407.out _).trans (hHeld.2.2.2.1)))), ((cell_far (p := ⟨gb407, _, none⟩) NB337_407.out _).trans (((cell_far (p := ⟨gb407, _, none⟩) NB337_407.out _).trans (hHeld.2.2.2.2.1)))), ((cell_far (p := ⟨gb407, _, none⟩) NB337_407.out _).trans (((cell_far (p := ⟨gb407, _, none⟩) NB337_407.out _).trans (hHeld.2.2.2.2.2))))⟩ (fun hHeld => ?_)
        clear hK K
        refine done_ (by kernel_rfl) ?_
        have hnb143 := NB407_336.out
        have hnc143 := NB336_407.out
        have hnb144 := NB407_337.out
        have hnc144 := NB337_407.out
        have hnb145 := NB407_354.out
        have hnc145 := NB354_407.out
        have hnb146 := NB407_366.out
        have hnc146 := NB366_407.out
        have hnb147 := NB407_371.out
        have hnc147 := NB371_407.out
        have hcz148_0 : w139.cell? ⟨gb407, 0, none⟩ = some (.slice none 0 0) := (blk_cell BK407.out 0).trans rfl
        have hcz148_1 : w139.cell? ⟨gb407, 1, none⟩ = some (.bool false) := (blk_cell BK407.out 1).trans rfl
        have hfz148_0 := blk_frozen BK407.out 0
        have hfz148_1 := blk_frozen BK407.out 1
        have hcz149_0 : w139.cell? ⟨gb354, 0, none⟩ = some (.slice Ao68 t350.length co68) := (blk_cell BK354.out 0).trans rfl
        have hcz149_1 : w139.cell? ⟨gb354, 1, none⟩ = some (.bool t353) := (blk_cell BK354.out 1).trans rfl
        have hfz149_0 := blk_frozen BK354.out 0
        have hfz149_1 := blk_frozen BK354.out 1
        try go_wp2_with (first | ((with_reducible refine gate_callee (f := 26) rfl ?_); refine goesL_ (some 82) rfl rfl Try.func26 (by kernel_rfl) rfl #[.agg #[.slice Ao140 t403.length co140, .bool t406], .agg #[.slice Ao68 t350.length co68, .bool t353]] rfl (by (try simp only [mp_]); first | done | rfl | (simp only [List.length_drop, List.length_take]; rfl)) ?_; (with_reducible refine (laws_eqSub.calls k _ _ t403 t406 _ _ t350 t353 true _ ?side1 ?side2 ?side3 ?side4 A45.out).mono ?_); (case side1 => refine (Kd.S_reads' (e := 44) (base := w.heap.size) (ok := fun k_ => k_ ≠ gb366) (n := t403.length) (c := co140) ?_).2.2; exact (by (with_reducible repeat (first | apply Kd.S_alloc | apply Kd.S_drewN | apply Kd.S_drew)); exact (Kd.S_mono (Kd.S_far (p := ⟨gb407, 1, none⟩) (Kd.S_far (p := ⟨gb407, 0, none⟩) (Kd.S_types HO405.out BK407.out (by decide)) (fun _ hk => hk.2) (.slice Ao140 t403.length co140)) (fun _ hk => hk.2) (.bool t406)) (fun _ h_ => h_.1)))); (case side2 => exact (Kd.S_reads' HO405.out).2.1); (case side3 => refine (Kd.S_reads' (e := 44) (base := w.heap.size) (ok := fun k_ => (k_ ≠ gb366 ∧ (k_ < nz107 ∧ (k_ < nz112 ∧ (k_ < nz74 ∧ (k_ < nz84 ∧ k_ < nz94)))))) (n := t350.length) (c := co68) ?_).2.2; exact (by (with_reducible repeat (first | apply Kd.S_alloc | apply Kd.S_drewN | apply Kd.S_drew)); exact (Kd.S_mono (Kd.S_far (p := ⟨gb407, 1, none⟩) (Kd.S_far (p := ⟨gb407, 0, none⟩) (Kd.S_types HO352.out BK407.out (by decide)) (fun _ hk => hk.2) (.slice Ao140 t403.length co140)) (fun _ hk => hk.2) (.bool t406)) (fun _ h_ => h_.1)))); (case side4 => exact (Kd.S_reads' HO352.out).2.1); rintro e w150 ⟨rfl, hb⟩; refine ⟨_, rfl, ?_⟩; have n0_ := Aside0.mk (Kd.S_below (by (with_reducible repeat (first | apply Kd.S_alloc | apply Kd.S_drewN | apply Kd.S_drew)); exact (Kd.S_mono (Kd.S_far (p := ⟨gb407, 1, none⟩) (Kd.S_far (p := ⟨gb407, 0, none⟩) (Kd.S_types HO352.out BK407.out (by decide)) (fun _ hk => hk.2) (.slice Ao140 t403.length co140)) (fun _ hk => hk.2) (.bool t406)) (fun _ h_ => h_.1))) hb); have n1_ := Aside0.mk (Kd.S_below (by (with_reducible repeat (first | apply Kd.S_alloc | apply Kd.S_drewN | apply Kd.S_drew)); exact (Kd.S_mono (Kd.S_far (p := ⟨gb407, 1, none⟩) (Kd.S_far (p := ⟨gb407, 0, none⟩) (Kd.S_types HO369.out BK407.out (by decide)) (fun _ hk => hk.2) (.slice Ao140 t403.length co140)) (fun _ hk => hk.2) (.bool t406)) (fun _ h_ => h_.1))) hb); have n2_ := Aside0.mk (Kd.S_below (by (with_reducible repeat (first | apply Kd.S_alloc | apply Kd.S_drewN | apply Kd.S_drew)); exact (Kd.S_mono (Kd.S_far (p := ⟨gb407, 1, none⟩) (Kd.S_far (p := ⟨gb407, 0, none⟩) (Kd.S_types HO395.out BK407.out (by decide)) (fun _ hk => hk.2) (.slice Ao140 t403.length co140)) (fun _ hk => hk.2) (.bool t406)) (fun _ h_ => h_.1))) hb); have n3_ := Aside0.mk (Kd.R_below (by (with_reducible repeat (first | apply Kd.R_alloc | apply Kd.R_drewN | apply Kd.R_drew)); exact (Kd.R_mono (Kd.R_far (p := ⟨gb407, 1, none⟩) (Kd.R_far (p := ⟨gb407, 0, none⟩) (Kd.R_types HO399.out BK407.out (by decide)) (fun _ hk => hk.2) (.slice Ao140 t403.length co140)) (fun _ hk => hk.2) (.bool t406)) (fun _ h_ => h_.1))) hb); have n4_ := Aside0.mk (Kd.S_below (by (with_reducible repeat (first | apply Kd.S_alloc | apply Kd.S_drewN | apply Kd.S_drew)); exact (Kd.S_mono (Kd.S_far (p := ⟨gb407, 1, none⟩) (Kd.S_far (p := ⟨gb407, 0, none⟩) (Kd.S_types HO405.out BK407.out (by decide)) (fun _ hk => hk.2) (.slice Ao140 t403.length co140)) (fun _ hk => hk.2) (.bool t406)) (fun _ h_ => h_.1))) hb); have n5_ := Aside0.mk (blk_below (g := gb336) (o := .cells #[.slice A0_0 l0_0.length c0_0, .bool a0_1] 31 (0, 0)) (by (with_reducible repeat (first | refine kn_ ?_ _ | refine kd_ ?_ | refine ka_ ?_ _)); refine blk_far ?_ NB336_407.out _; (with_reducible repeat (first | refine kn_ ?_ _ | refine kd_ ?_ | refine ka_ ?_ _)); refine blk_far ?_ NB336_407.out _; (with_reducible repeat (first | refine kn_ ?_ _ | refine kd_ ?_ | refine ka_ ?_ _)); exact BK336.out) hb); have n6_ := Aside0.mk (blk_below (g := gb337) (o := .cells #[.slice A1_0 l1_0.length c1_0, .int .i64 a1_1, .int .i64 a1_2, .string a1_3] 34 (0, 0)) (by (with_reducible repeat (first | refine kn_ ?_ _ | refine kd_ ?_ | refine ka_ ?_ _)); refine blk_far ?_ NB337_407.out _; (with_reducible repeat (first | refine kn_ ?_ _ | refine kd_ ?_ | refine ka_ ?_ _)); refine blk_far ?_ NB337_407.out _; (with_reducible repeat (first | refine kn_ ?_ _ | refine kd_ ?_ | refine ka_ ?_ _)); exact BK337.out) hb); have n7_ := Aside0.mk (blk_below (g := gb354) (o := .cells #[.slice Ao68 t350.length co68, .bool t353] 39 (0, 0)) (by (with_reducible repeat (first | refine kn_ ?_ _ | refine kd_ ?_ | refine ka_ ?_ _)); refine blk_far ?_ NB354_407.out _; (with_reducible repeat (first | refine kn_ ?_ _ | refine kd_ ?_ | refine ka_ ?_ _)); refine blk_far ?_ NB354_407.out _; (with_reducible repeat (first | refine kn_ ?_ _ | refine kd_ ?_ | refine ka_ ?_ _)); exact BK354.out) hb); have n8_ := Aside0.mk (blk_below (g := gb366) (o := .cells #[.slice Ao86 t360.length co86, .int .i64 t363, .int .i64 t364, .string t365] 44 (0, 0)) (by (with_reducible repeat (first | refine kn_ ?_ _ | refine kd_ ?_ | refine ka_ ?_ _)); refine blk_far ?_ NB366_407.out _; (with_reducible repeat (first | refine kn_ ?_ _ | refine kd_ ?_ | refine ka_ ?_ _)); refine blk_far ?_ NB366_407.out _; (with_reducible repeat (first | refine kn_ ?_ _ | refine kd_ ?_ | refine ka_ ?_ _)); exact BK366.out) hb); have n9_ := Aside0.mk (blk_below (g := gb371) (o := .cells #[.slice Ao96 t367.length co96, .bool t370] 39 (0, 0)) (by (with_reducible repeat (first | refine kn_ ?_ _ | refine kd_ ?_ | refine ka_ ?_ _)); refine blk_far ?_ NB371_407.out _; (with_reducible repeat (first | refine kn_ ?_ _ | refine kd_ ?_ | refine ka_ ?_ _)); refine blk_far ?_ NB371_407.out _; (with_reducible repeat (first | refine kn_ ?_ _ | refine kd_ ?_ | refine ka_ ?_ _)); exact BK371.out) hb); have n10_ := Aside0.mk (blk_below (g := gb407) (o := .cells #[.slice Ao140 t403.length co140, .bool t406] 39 (0, 0)) (by (with_reducible repeat (first | refine kn_ ?_ _ | refine kd_ ?_ | refine ka_ ?_ _)); refine blk_put (cs := #[.slice Ao140 t403.length co140, .bool false]) ?_ 1 _ rfl; (with_reducible repeat (first | refine kn_ ?_ _ | refine kd_ ?_ | refine ka_ ?_ _)); refine blk_put (cs := #[.slice none 0 0, .bool false]) ?_ 0 _ rfl; (with_reducible repeat (first | refine kn_ ?_ _ | refine kd_ ?_ | refine ka_ ?_ _)); exact BK407.out) hb); have n11_ := Aside0.mk (below_step (by repeat (first | (with_reducible first | exact HB.out | apply ba_ | apply bn_ | apply bd_ | refine below_set ?_ GE336.out | refine below_set ?_ GE337.out | refine below_set ?_ GE354.out | refine below_set ?_ GE366.out | refine below_set ?_ GE371.out | refine below_set ?_ GE407.out) | exact HB.out)) hb); clear HO352; clear HO369; clear HO395; clear HO399; clear HO405; clear BK336; clear BK337; clear BK354; clear BK366; clear BK371; clear BK407; clear HB; have HO352 := n0_; have HO369 := n1_; have HO395 := n2_; have HO399 := n3_; have HO405 := n4_; have BK336 := n5_; have BK337 := n6_; have BK354 := n7_; have BK366 := n8_; have BK371 := n9_; have BK407 := n10_; have HB := n11_; clear n0_ n1_ n2_ n3_ n4_ n5_ n6_ n7_ n8_ n9_ n10_ n11_; (try clear hb); (try clear hb2); (try clear hk); (try clear hi); have hcz151_0 : w150.cell? ⟨gb371, 0, none⟩ = some (.slice Ao96 t367.length co96) := (blk_cell BK371.out 0).trans rfl; have hcz151_1 : w150.cell? ⟨gb371, 1, none⟩ = some (.bool t370) := (blk_cell BK371.out 1).trans rfl; have hfz151_0 := blk_frozen BK371.out 0; have hfz151_1 := blk_frozen BK371.out 1) | ((with_reducible refine gate_callee (f := 30) rfl ?_); refine goesL_ (some 86) rfl rfl Try.func30 (by kernel_rfl) rfl #[.agg #[.slice Ao96 t391.length co96, .bool t370], .int .i64 1] rfl (by (try simp only [mp_]); first | done | (rw [show t391.length = t367.length from (Kd.S_reads' HO369.out).1.symm] <;> rfl) | rfl | (simp only [List.length_drop, List.length_take]; rfl)) ?_; (with_reducible refine (laws_heldSub.calls k _ _ t391 t370 1 t409 _ ?side1 ?side2 A47.out).mono ?_); (case side1 => repeat (first | exact (Kd.S_reads' HO369.out).2.2 | (with_reducible first | refine ca_ ?_ _ | refine cn_ ?_ _ | refine cd_ ?_))); (case side2 => rw [show t391.length = t367.length from (Kd.S_reads' HO369.out).1.symm]; exact (Kd.S_reads' HO369.out).2.1); rintro e w152 ⟨rfl, hb⟩; refine ⟨_, rfl, ?_⟩; have n0_ := Aside0.mk (Kd.S_below (sp_ HO369.out) hb); have n1_ := Aside0.mk (bb_ BK366.out hb); have n2_ := Aside0.mk (below_step (by repeat (first | (with_reducible first | exact HB.out | apply ba_ | apply bn_ | apply bd_ | refine below_set ?_ GE366.out) | exact HB.out)) hb); clear HO369; clear BK366; clear HB; have HO369 := n0_; have BK366 := n1_; have HB := n2_; clear n0_ n1_ n2_; (try clear hb); (try clear hb2); (try clear hk); (try clear hi)))
        go_ret
        exact ⟨by first | rfl | (simp [errW_none, errW_some] <;> rfl) | (simp [*, errW_none, errW_some] <;> rfl), by repeat (first | (with_reducible first | exact HB.out | apply ba_ | apply bn_ | apply bd_ | refine below_set ?_ GE366.out) | exact HB.out)⟩
       rw [if_neg c49] at H
       exact absurd H (by simp)
      replace c46 := Bool.eq_false_iff.mpr c46
      subst c46
      rw [if_neg (show ¬ (false = true) by decide)] at H
      exact absurd H (by simp)
     rw [if_neg c41] at H
     exact absurd H (by simp)
    replace c37 := Bool.eq_false_iff.mpr c37
    subst c37
    rw [if_neg (show ¬ (false = true) by decide)] at H
    exact absurd H (by simp)
   replace c32 := Bool.eq_false_iff.mpr c32
   subst c32
   rw [if_neg (show ¬ (false = true) by decide)] at H
   exact absurd H (by simp)
  replace c29 := Bool.eq_false_iff.mpr c29
  subst c29
  rw [if_neg (show ¬ (false = true) by decide)] at H
  exact absurd H (by simp)
 replace c26 := Bool.eq_false_iff.mpr c26
 subst c26
 rw [if_neg (show ¬ (false = true) by decide)] at H
 exact absurd H (by simp)
end Go.Proofs.Ytfholjcelnkleaa.Print
end
section
namespace Go.Proofs.Ytfholjcelnkleaa.Print
open Go.RowKit Go.Proofs.YtfholjcelnkleaaV.PrintWords Go.Proofs.YtfholjcelnkleaaV.PrintLast Go.Proofs.YtfholjcelnkleaaV.PrintMore
set_option linter.unusedVariables false
/-- The pure statement of laws_FnExactTell. -/
def laws_FnExactTell.Pure : Prop := ∀ (l0_0 : List (S34)) (a0_1 : Bool) (l1_0 : List (S163)) (a1_1 : Int) (a1_2 : Int) (a1_3 : ByteArray), (l0_0.length ≤ maxLen ∧ ∀ y ∈ l0_0, B34 y) → True → (l1_0.length ≤ maxLen ∧ ∀ y ∈ l1_0, B163 y) → (Lit.int .i64 a1_1).wf = true → (Lit.int .i64 a1_2).wf = true → a1_3.size ≤ maxLen → ∃ k, laws_FnExactTell.f k l0_0 a0_1 l1_0 a1_1 a1_2 a1_3 = some true
end Go.Proofs.Ytfholjcelnkleaa.Print
end
section
namespace Go.Proofs.Ytfholjcelnkleaa.Print
open Go.RowKit Go.Proofs.YtfholjcelnkleaaV.PrintWords Go.Proofs.YtfholjcelnkleaaV.PrintLast Go.Proofs.YtfholjcelnkleaaV.PrintMore
set_option linter.unusedVariables false
set_option linter.unusedSimpArgs false
theorem wrap_id {x : Int} (h1 : -9223372036854775808 ≤ x) (h2 : x ≤ 9223372036854775807) : wrap64 x = x := by unfold wrap64; omega
theorem wrap_up (n : Nat) (h : n < 9223372036854775807) : wrap64 ((n : Int) + 1) = ((n + 1 : Nat) : Int) := by unfold wrap64; omega
theorem Ev.const {α : Type} {o : Option α} {r : α} (h : o = some r) : Ev (fun _ => o) r := ⟨0, fun _ _ => h⟩
theorem Ev.uniq {α : Type} {g : Nat → Option α} {a b : α} (h : Ev g a) (h' : Ev g b) : a = b := by
  obtain ⟨K, h⟩ := h
  obtain ⟨K', h'⟩ := h'
  exact Option.some.inj ((h (max K K') (Nat.le_max_left _ _)).symm.trans (h' _ (Nat.le_max_right _ _)))
theorem getD_mid {α : Type} (pre suf : List α) (y z : α) : (pre ++ y :: suf).getD pre.length z = y := by simp
theorem set_mid {α : Type} (pre suf : List α) (y v : α) : (pre ++ y :: suf).set pre.length v = pre ++ v :: suf := by simp
theorem lt_mid {α : Type} (pre suf : List α) (y : α) : (pre.length : Int) < ((pre ++ y :: suf).length : Int) := by simp only [List.length_append, List.length_cons]; omega
theorem not_lt_end {α : Type} (pre : List α) : ¬ ((pre.length : Int) < ((pre ++ []).length : Int)) := by simp
theorem nn (n : Nat) : (0 : Int) ≤ (n : Int) := by omega
theorem mid_assoc {α : Type} (pre suf : List α) (y : α) : pre ++ y :: suf = (pre ++ [y]) ++ suf := by simp
theorem not_neg12 (n : Nat) : ¬ (1 + 2 * (n : Int) < 0) := by omega
def cvLabel (x : S163) : S164 := ⟨x.f0, x.f1⟩
def WLabel (x : S163) : Prop := x.f0.size ≤ 1048576 ∧ x.f1.size ≤ 1048576
def WiLabel (x : S164) : Prop := x.f0.size ≤ 4000000 ∧ x.f1.size ≤ 4000000
theorem Wi_cvLabel {x : S163} (h : WLabel x) : WiLabel (cvLabel x) := ⟨Nat.le_trans h.1 (by decide), Nat.le_trans h.2 (by decide)⟩
theorem szLabel_ev (x : S163) (hB : B163 x) (n : Int) (h0 : 0 ≤ n) (h1 : n ≤ 1048576) : ∃ r, Ev (fun k => laws_szLabel.f x.f0 x.f1 n) r ∧ r ≤ n ∧ (0 ≤ r → WLabel x) := by
  have q1 : x.f0.size ≤ 9223372036854775807 := hB.1
  have e1 : wrap64 (n - (x.f0.size : Int)) = n - (x.f0.size : Int) := wrap_id (by omega) (by omega)
  by_cases c1 : n - (x.f0.size : Int) < 0
  · exact ⟨-1, ⟨0, fun k hk => by simp [laws_szLabel.f, e1, c1]⟩, by omega, by omega⟩
  have q2 : x.f1.size ≤ 9223372036854775807 := hB.2
  have e2 : wrap64 ((n - (x.f0.size : Int)) - (x.f1.size : Int)) = (n - (x.f0.size : Int)) - (x.f1.size : Int) := wrap_id (by omega) (by omega)
  by_cases c2 : (n - (x.f0.size : Int)) - (x.f1.size : Int) < 0
  · exact ⟨-1, ⟨0, fun k hk => by simp [laws_szLabel.f, e1, c1, e2, c2]⟩, by omega, by omega⟩
  exact ⟨((n - (x.f0.size : Int)) - (x.f1.size : Int)), ⟨0, fun k hk => by simp [laws_szLabel.f, e1, c1, e2, c2]⟩, by omega, fun _ => ⟨(by omega), (by omega)⟩⟩
theorem toLabel_ev (x : S163) (h : WLabel x) : Ev (fun k => laws_toLabel.f x.f0 x.f1) ((cvLabel x).f0, (cvLabel x).f1) := by
  exact ⟨0, fun k hk => by simp [laws_toLabel.f, cvLabel]⟩
theorem eqLabel_ev (x : S164) (h : WiLabel x) : Ev (fun k => laws_eqLabel.f x.f0 x.f1 x.f0 x.f1) true := by
  exact ⟨0, fun k hk => by simp [laws_eqLabel.f]⟩
theorem rdmidLabell (pre suf : List S163) (y : S163) : rd_T163 (pre ++ y :: suf) (pre.length : Int) = y := by unfold rd_T163; simp
theorem rdmidLabeli (pre suf : List S164) (y : S164) : rd_T164 (pre ++ y :: suf) (pre.length : Int) = y := by unfold rd_T164; simp
theorem szLabelS_l0 : ∀ (suf pre : List S163) (n : Int), 0 ≤ n → n ≤ 1048576 → (∀ y ∈ suf, B163 y) → (pre ++ suf).length < 4611686018427387904 → ∃ r, Ev (fun k => laws_szLabelS.l0 k (pre ++ suf) n (pre.length : Int)) r ∧ r ≤ n ∧ (0 ≤ r → ∀ y ∈ suf, WLabel y)
  | [], pre, n, h0, h1, hB, h => by
    refine ⟨n, Ev.step (f := fun _ => some n) (fun k => ?_) (Ev.now _), Int.le_refl _, fun _ y hy => by cases hy⟩
    simp only [laws_szLabelS.l0]
    rw [if_neg (not_lt_end pre)]
  | y :: suf, pre, n, h0, h1, hB, h => by
    have hp : pre.length < 4611686018427387904 := by simp at h; omega
    have hy := hB y List.mem_cons_self
    obtain ⟨r1, g1, l1, w1⟩ := szLabel_ev y hy n h0 h1
    by_cases c : r1 < 0
    · refine ⟨-1, Ev.step (f := fun k => (laws_szLabel.f y.f0 y.f1 n).bind fun t => if t < 0 then some (-1) else laws_szLabelS.l0 k (pre ++ y :: suf) t (wrap64 ((pre.length : Int) + 1))) (fun k => ?_) (Ev.bind g1 ?_), by omega, by omega⟩
      · simp only [laws_szLabelS.l0]
        rw [if_pos (lt_mid pre suf y), if_pos (nn _), rdmidLabell]
      · simp only [if_pos c]
        exact Ev.now _
    · obtain ⟨r, g, hl, hw⟩ := szLabelS_l0 suf (pre ++ [y]) r1 (by omega) (by omega) (fun z hz => hB z (List.mem_cons_of_mem _ hz)) (by simpa using h)
      refine ⟨r, Ev.step (f := fun k => (laws_szLabel.f y.f0 y.f1 n).bind fun t => if t < 0 then some (-1) else laws_szLabelS.l0 k ((pre ++ [y]) ++ suf) t ((pre ++ [y]).length : Int)) (fun k => ?_) (Ev.bind g1 ?_), by omega, fun hr z hz => ?_⟩
      · simp only [laws_szLabelS.l0]
        rw [if_pos (lt_mid pre suf y), if_pos (nn _), rdmidLabell, wrap_up _ (by omega)]
        simp
      · simp only [if_neg c]
        exact g
      · rcases List.mem_cons.1 hz with rfl | hz
        · exact w1 (by omega)
        · exact hw hr z hz
theorem szLabelS_ev (l : List S163) (hB : l.length ≤ maxLen ∧ ∀ y ∈ l, B163 y) (n : Int) (h0 : 0 ≤ n) (h1 : n ≤ 1048576) : ∃ r, Ev (fun k => laws_szLabelS.f k l n) r ∧ r ≤ n ∧ (0 ≤ r → l.length ≤ 1048576 ∧ ∀ y ∈ l, WLabel y) := by
  have q : l.length ≤ 9223372036854775807 := hB.1
  have e : wrap64 (n - (l.length : Int)) = n - (l.length : Int) := wrap_id (by omega) (by omega)
  by_cases c : n - (l.length : Int) < 0
  · exact ⟨-1, ⟨0, fun k _ => by simp [laws_szLabelS.f, e, c]⟩, by omega, by omega⟩
  · obtain ⟨r, g, hl, hw⟩ := szLabelS_l0 l [] (n - (l.length : Int)) (by omega) (by omega) hB.2 (by simp; omega)
    refine ⟨r, Ev.congr (fun k => ?_) g, by omega, fun hr => ⟨by omega, hw hr⟩⟩
    unfold laws_szLabelS.f
    rw [e, if_neg c]
    rfl
theorem toLabelS_l0 : ∀ (suf pre : List S163), (pre ++ suf).length < 4611686018427387904 → (∀ y ∈ suf, WLabel y) → Ev (fun k => laws_toLabelS.l0 k (pre ++ suf) ((pre.map cvLabel) ++ List.replicate suf.length z164) (pre.length : Int)) ((pre ++ suf).map cvLabel)
  | [], pre, h, hW => by
    refine Ev.step (f := fun _ => some ((pre ++ []).map cvLabel)) (fun k => ?_) (Ev.now _)
    simp only [laws_toLabelS.l0]
    rw [if_neg (not_lt_end pre)]
    simp
  | y :: suf, pre, h, hW => by
    have hp : pre.length < 4611686018427387904 := by simp at h; omega
    have ih := toLabelS_l0 suf (pre ++ [y]) (by simpa using h) (fun z hz => hW z (List.mem_cons_of_mem _ hz))
    have g := toLabel_ev y (hW y List.mem_cons_self)
    refine Ev.step (f := fun k => (laws_toLabel.f y.f0 y.f1).bind fun t => laws_toLabelS.l0 k ((pre ++ [y]) ++ suf) ((pre.map cvLabel) ++ (⟨t.1, t.2⟩ : S164) :: List.replicate suf.length z164) ((pre ++ [y]).length : Int)) (fun k => ?_) (Ev.bind g ?_)
    · simp only [laws_toLabelS.l0]
      rw [if_pos (lt_mid pre suf y), if_pos (nn _), rdmidLabell, wrap_up _ (by omega)]
      congr 1
      funext t
      rw [if_pos (by simp; omega)]
      congr 1
      · simp
      · simp [List.replicate_succ]
      · simp
    · rw [mid_assoc pre suf y]
      have e : (pre.map cvLabel) ++ (cvLabel y) :: List.replicate suf.length z164 = ((pre ++ [y]).map cvLabel) ++ List.replicate suf.length z164 := by simp
      rw [← e] at ih
      exact ih
theorem toLabelS_ev (l : List S163) (h : l.length ≤ 1048576 ∧ ∀ y ∈ l, WLabel y) : Ev (fun k => laws_toLabelS.f k l) (l.map cvLabel) := by
  have h1 := h.1
  refine Ev.congr (fun k => ?_) (toLabelS_l0 l [] (by simp; omega) h.2)
  unfold laws_toLabelS.f
  rw [if_pos (nn l.length), Int.toNat_natCast, if_pos (by omega)]
  rfl
theorem eqLabelS_l0 : ∀ (suf pre : List S164), (pre ++ suf).length < 4611686018427387904 → (∀ y ∈ suf, WiLabel y) → Ev (fun k => laws_eqLabelS.l0 k (pre ++ suf) (pre ++ suf) (pre.length : Int)) true
  | [], pre, h, hW => by
    refine Ev.step (f := fun _ => some true) (fun k => ?_) (Ev.now _)
    simp only [laws_eqLabelS.l0]
    rw [if_neg (not_lt_end pre)]
  | y :: suf, pre, h, hW => by
    have hp : pre.length < 4611686018427387904 := by simp at h; omega
    have ih := eqLabelS_l0 suf (pre ++ [y]) (by simpa using h) (fun z hz => hW z (List.mem_cons_of_mem _ hz))
    have g := eqLabel_ev y (hW y List.mem_cons_self)
    refine Ev.step (f := fun k => (laws_eqLabel.f y.f0 y.f1 y.f0 y.f1).bind fun t => if t = true then laws_eqLabelS.l0 k ((pre ++ [y]) ++ suf) ((pre ++ [y]) ++ suf) ((pre ++ [y]).length : Int) else none) (fun k => ?_) (Ev.bind g ?_)
    · simp only [laws_eqLabelS.l0]
      rw [if_pos (lt_mid pre suf y), if_pos (nn _), if_pos (lt_mid pre suf y), rdmidLabeli, wrap_up _ (by omega)]
      simp
    · simp only [if_true]
      exact ih
theorem eqLabelS_ev (l : List S164) (h : l.length ≤ 4000000 ∧ ∀ y ∈ l, WiLabel y) : Ev (fun k => laws_eqLabelS.f k l l) true := by
  have h1 := h.1
  refine Ev.congr (fun k => ?_) (eqLabelS_l0 l [] (by simp; omega) h.2)
  unfold laws_eqLabelS.f
  rw [if_pos rfl]
  rfl
def cvAlarm (x : S34) : S44 := ⟨(x.f0.map cvLabel), x.f1, x.f2, x.f3⟩
def WAlarm (x : S34) : Prop := (x.f0.length ≤ 1048576 ∧ ∀ y ∈ x.f0, WLabel y) ∧ True ∧ True ∧ x.f3.size ≤ 1048576
def WiAlarm (x : S44) : Prop := (x.f0.length ≤ 4000000 ∧ ∀ y ∈ x.f0, WiLabel y) ∧ True ∧ True ∧ x.f3.size ≤ 4000000
theorem Wi_cvAlarm {x : S34} (h : WAlarm x) : WiAlarm (cvAlarm x) := ⟨⟨by show (List.map cvLabel x.f0).length ≤ 4000000; rw [List.length_map]; exact Nat.le_trans h.1.1 (by decide), fun y hy => by obtain ⟨z, hz, rfl⟩ := List.mem_map.1 hy; exact Wi_cvLabel (h.1.2 z hz)⟩, trivial, trivial, Nat.le_trans h.2.2.2 (by decide)⟩
theorem szAlarm_ev (x : S34) (hB : B34 x) (n : Int) (h0 : 0 ≤ n) (h1 : n ≤ 1048576) : ∃ r, Ev (fun k => laws_szAlarm.f k x.f0 x.f1 x.f2 x.f3 n) r ∧ r ≤ n ∧ (0 ≤ r → WAlarm x) := by
  obtain ⟨r1, ⟨K1, g1⟩, l1, w1⟩ := szLabelS_ev x.f0 hB.1 n (by omega) (by omega)
  by_cases c1 : r1 < 0
  · exact ⟨-1, ⟨K1, fun k hk => by simp [laws_szAlarm.f, g1 k (by omega), c1]⟩, by omega, by omega⟩
  have q2 : x.f3.size ≤ 9223372036854775807 := hB.2.2.2
  have e2 : wrap64 (r1 - (x.f3.size : Int)) = r1 - (x.f3.size : Int) := wrap_id (by omega) (by omega)
  by_cases c2 : r1 - (x.f3.size : Int) < 0
  · exact ⟨-1, ⟨K1, fun k hk => by simp [laws_szAlarm.f, g1 k (by omega), c1, e2, c2]⟩, by omega, by omega⟩
  exact ⟨(r1 - (x.f3.size : Int)), ⟨K1, fun k hk => by simp [laws_szAlarm.f, g1 k (by omega), c1, e2, c2]⟩, by omega, fun _ => ⟨(w1 (by omega)), trivial, trivial, (by omega)⟩⟩
theorem toAlarm_ev (x : S34) (h : WAlarm x) : Ev (fun k => laws_toAlarm.f k x.f0 x.f1 x.f2 x.f3) ((cvAlarm x).f0, (cvAlarm x).f1, (cvAlarm x).f2, (cvAlarm x).f3) := by
  obtain ⟨K0, g0⟩ := toLabelS_ev x.f0 h.1
  exact ⟨K0, fun k hk => by simp [laws_toAlarm.f, cvAlarm, g0 k (by omega)]⟩
theorem eqAlarm_ev (x : S44) (h : WiAlarm x) : Ev (fun k => laws_eqAlarm.f k x.f0 x.f1 x.f2 x.f3 x.f0 x.f1 x.f2 x.f3) true := by
  obtain ⟨K0, g0⟩ := eqLabelS_ev x.f0 h.1
  exact ⟨K0, fun k hk => by simp [laws_eqAlarm.f, g0 k (by omega)]⟩
theorem rdmidAlarml (pre suf : List S34) (y : S34) : rd_T34 (pre ++ y :: suf) (pre.length : Int) = y := by unfold rd_T34; simp
theorem rdmidAlarmi (pre suf : List S44) (y : S44) : rd_T44 (pre ++ y :: suf) (pre.length : Int) = y := by unfold rd_T44; simp
theorem szAlarmS_l0 : ∀ (suf pre : List S34) (n : Int), 0 ≤ n → n ≤ 1048576 → (∀ y ∈ suf, B34 y) → (pre ++ suf).length < 4611686018427387904 → ∃ r, Ev (fun k => laws_szAlarmS.l0 k (pre ++ suf) n (pre.length : Int)) r ∧ r ≤ n ∧ (0 ≤ r → ∀ y ∈ suf, WAlarm y)
  | [], pre, n, h0, h1, hB, h => by
    refine ⟨n, Ev.step (f := fun _ => some n) (fun k => ?_) (Ev.now _), Int.le_refl _, fun _ y hy => by cases hy⟩
    simp only [laws_szAlarmS.l0]
    rw [if_neg (not_lt_end pre)]
  | y :: suf, pre, n, h0, h1, hB, h => by
    have hp : pre.length < 4611686018427387904 := by simp at h; omega
    have hy := hB y List.mem_cons_self
    obtain ⟨r1, g1, l1, w1⟩ := szAlarm_ev y hy n h0 h1
    by_cases c : r1 < 0
    · refine ⟨-1, Ev.step (f := fun k => (laws_szAlarm.f k y.f0 y.f1 y.f2 y.f3 n).bind fun t => if t < 0 then some (-1) else laws_szAlarmS.l0 k (pre ++ y :: suf) t (wrap64 ((pre.length : Int) + 1))) (fun k => ?_) (Ev.bind g1 ?_), by omega, by omega⟩
      · simp only [laws_szAlarmS.l0]
        rw [if_pos (lt_mid pre suf y), if_pos (nn _), rdmidAlarml]
      · simp only [if_pos c]
        exact Ev.now _
    · obtain ⟨r, g, hl, hw⟩ := szAlarmS_l0 suf (pre ++ [y]) r1 (by omega) (by omega) (fun z hz => hB z (List.mem_cons_of_mem _ hz)) (by simpa using h)
      refine ⟨r, Ev.step (f := fun k => (laws_szAlarm.f k y.f0 y.f1 y.f2 y.f3 n).bind fun t => if t < 0 then some (-1) else laws_szAlarmS.l0 k ((pre ++ [y]) ++ suf) t ((pre ++ [y]).length : Int)) (fun k => ?_) (Ev.bind g1 ?_), by omega, fun hr z hz => ?_⟩
      · simp only [laws_szAlarmS.l0]
        rw [if_pos (lt_mid pre suf y), if_pos (nn _), rdmidAlarml, wrap_up _ (by omega)]
        simp
      · simp only [if_neg c]
        exact g
      · rcases List.mem_cons.1 hz with rfl | hz
        · exact w1 (by omega)
        · exact hw hr z hz
theorem szAlarmS_ev (l : List S34) (hB : l.length ≤ maxLen ∧ ∀ y ∈ l, B34 y) (n : Int) (h0 : 0 ≤ n) (h1 : n ≤ 1048576) : ∃ r, Ev (fun k => laws_szAlarmS.f k l n) r ∧ r ≤ n ∧ (0 ≤ r → l.length ≤ 1048576 ∧ ∀ y ∈ l, WAlarm y) := by
  have q : l.length ≤ 9223372036854775807 := hB.1
  have e : wrap64 (n - (l.length : Int)) = n - (l.length : Int) := wrap_id (by omega) (by omega)
  by_cases c : n - (l.length : Int) < 0
  · exact ⟨-1, ⟨0, fun k _ => by simp [laws_szAlarmS.f, e, c]⟩, by omega, by omega⟩
  · obtain ⟨r, g, hl, hw⟩ := szAlarmS_l0 l [] (n - (l.length : Int)) (by omega) (by omega) hB.2 (by simp; omega)
    refine ⟨r, Ev.congr (fun k => ?_) g, by omega, fun hr => ⟨by omega, hw hr⟩⟩
    unfold laws_szAlarmS.f
    rw [e, if_neg c]
    rfl
theorem toAlarmS_l0 : ∀ (suf pre : List S34), (pre ++ suf).length < 4611686018427387904 → (∀ y ∈ suf, WAlarm y) → Ev (fun k => laws_toAlarmS.l0 k (pre ++ suf) ((pre.map cvAlarm) ++ List.replicate suf.length z44) (pre.length : Int)) ((pre ++ suf).map cvAlarm)
  | [], pre, h, hW => by
    refine Ev.step (f := fun _ => some ((pre ++ []).map cvAlarm)) (fun k => ?_) (Ev.now _)
    simp only [laws_toAlarmS.l0]
    rw [if_neg (not_lt_end pre)]
    simp
  | y :: suf, pre, h, hW => by
    have hp : pre.length < 4611686018427387904 := by simp at h; omega
    have ih := toAlarmS_l0 suf (pre ++ [y]) (by simpa using h) (fun z hz => hW z (List.mem_cons_of_mem _ hz))
    have g := toAlarm_ev y (hW y List.mem_cons_self)
    refine Ev.step (f := fun k => (laws_toAlarm.f k y.f0 y.f1 y.f2 y.f3).bind fun t => laws_toAlarmS.l0 k ((pre ++ [y]) ++ suf) ((pre.map cvAlarm) ++ (⟨t.1, t.2.1, t.2.2.1, t.2.2.2⟩ : S44) :: List.replicate suf.length z44) ((pre ++ [y]).length : Int)) (fun k => ?_) (Ev.bind g ?_)
    · simp only [laws_toAlarmS.l0]
      rw [if_pos (lt_mid pre suf y), if_pos (nn _), rdmidAlarml, wrap_up _ (by omega)]
      congr 1
      funext t
      rw [if_pos (by simp; omega)]
      congr 1
      · simp
      · simp [List.replicate_succ]
      · simp
    · rw [mid_assoc pre suf y]
      have e : (pre.map cvAlarm) ++ (cvAlarm y) :: List.replicate suf.length z44 = ((pre ++ [y]).map cvAlarm) ++ List.replicate suf.length z44 := by simp
      rw [← e] at ih
      exact ih
theorem toAlarmS_ev (l : List S34) (h : l.length ≤ 1048576 ∧ ∀ y ∈ l, WAlarm y) : Ev (fun k => laws_toAlarmS.f k l) (l.map cvAlarm) := by
  have h1 := h.1
  refine Ev.congr (fun k => ?_) (toAlarmS_l0 l [] (by simp; omega) h.2)
  unfold laws_toAlarmS.f
  rw [if_pos (nn l.length), Int.toNat_natCast, if_pos (by omega)]
  rfl
theorem eqAlarmS_l0 : ∀ (suf pre : List S44), (pre ++ suf).length < 4611686018427387904 → (∀ y ∈ suf, WiAlarm y) → Ev (fun k => laws_eqAlarmS.l0 k (pre ++ suf) (pre ++ suf) (pre.length : Int)) true
  | [], pre, h, hW => by
    refine Ev.step (f := fun _ => some true) (fun k => ?_) (Ev.now _)
    simp only [laws_eqAlarmS.l0]
    rw [if_neg (not_lt_end pre)]
  | y :: suf, pre, h, hW => by
    have hp : pre.length < 4611686018427387904 := by simp at h; omega
    have ih := eqAlarmS_l0 suf (pre ++ [y]) (by simpa using h) (fun z hz => hW z (List.mem_cons_of_mem _ hz))
    have g := eqAlarm_ev y (hW y List.mem_cons_self)
    refine Ev.step (f := fun k => (laws_eqAlarm.f k y.f0 y.f1 y.f2 y.f3 y.f0 y.f1 y.f2 y.f3).bind fun t => if t = true then laws_eqAlarmS.l0 k ((pre ++ [y]) ++ suf) ((pre ++ [y]) ++ suf) ((pre ++ [y]).length : Int) else none) (fun k => ?_) (Ev.bind g ?_)
    · simp only [laws_eqAlarmS.l0]
      rw [if_pos (lt_mid pre suf y), if_pos (nn _), if_pos (lt_mid pre suf y), rdmidAlarmi, wrap_up _ (by omega)]
      simp
    · simp only [if_true]
      exact ih
theorem eqAlarmS_ev (l : List S44) (h : l.length ≤ 4000000 ∧ ∀ y ∈ l, WiAlarm y) : Ev (fun k => laws_eqAlarmS.f k l l) true := by
  have h1 := h.1
  refine Ev.congr (fun k => ?_) (eqAlarmS_l0 l [] (by simp; omega) h.2)
  unfold laws_eqAlarmS.f
  rw [if_pos rfl]
  rfl
theorem markText_l0 : ∀ (n : Nat) (x : Int) (acc : ByteArray), 0 ≤ x → x.toNat = n → acc.size + n < 4611686018427387904 → ∃ s, Ev (fun k => laws_markText.l0 k x acc) s := by
  intro n
  induction n using Nat.strongRecOn with
  | _ n ih =>
    intro x acc h0 hx hs
    by_cases c : x > 0
    · have e : wrap64 (Int.tdiv x 10) = x / 10 := by rw [Int.tdiv_eq_ediv_of_nonneg h0]; exact wrap_id (by omega) (by omega)
      have hz : (strOfNums [(wrap64 (48 + (Int.tmod x 10))) % 256]).size = 1 := by rw [strOfNums_size]; rfl
      have hsz : ((strOfNums [(wrap64 (48 + (Int.tmod x 10))) % 256]) ++ acc).size = 1 + acc.size := by rw [ByteArray.size_append, hz]
      obtain ⟨s, g⟩ := ih (x / 10).toNat (by omega) (x / 10) ((strOfNums [(wrap64 (48 + (Int.tmod x 10))) % 256]) ++ acc) (by omega) rfl (by rw [hsz]; omega)
      refine ⟨s, Ev.step (fun k => ?_) g⟩
      simp only [laws_markText.l0]
      rw [if_pos c, Option.bind_some, if_pos (by rw [hz]; omega), e]
    · refine ⟨(⟨#[109]⟩ : ByteArray) ++ acc, Ev.step (f := fun _ => some ((⟨#[109]⟩ : ByteArray) ++ acc)) (fun k => ?_) (Ev.now _)⟩
      simp only [laws_markText.l0]
      rw [if_neg c, if_pos (by omega)]
theorem markText_some (x : Int) (h0 : 0 ≤ x) (h1 : x < 4611686018427387904) : ∃ s, Ev (fun k => laws_markText.f k x) s := by
  by_cases c : x ≤ 0
  · exact ⟨⟨#[109, 48]⟩, 0, fun k _ => by show laws_markText.f k x = _; unfold laws_markText.f; exact if_pos c⟩
  · obtain ⟨s, g⟩ := markText_l0 x.toNat x ⟨#[]⟩ h0 rfl (by have : (⟨#[]⟩ : ByteArray).size = 0 := rfl; omega)
    exact ⟨s, Ev.congr (fun k => by show laws_markText.f k x = laws_markText.l0 k x ⟨#[]⟩; unfold laws_markText.f; exact if_neg c) g⟩
open Classical in
noncomputable def mkText (x : Int) : ByteArray := if h : ∃ s, Ev (fun k => laws_markText.f k x) s then h.choose else ⟨#[]⟩
theorem markText_ev (x : Int) (h0 : 0 ≤ x) (h1 : x < 4611686018427387904) : Ev (fun k => laws_markText.f k x) (mkText x) := by
  have h := markText_some x h0 h1
  unfold mkText
  rw [dif_pos h]
  exact h.choose_spec
def cnLabels : List S164 → Nat
  | [] => 0
  | _ :: ys => 2 + cnLabels ys
noncomputable def mkLabels : Int → List S164 → List S164
  | _, [] => []
  | k0, _ :: ys => ⟨mkText k0, mkText (k0 + 1)⟩ :: mkLabels (k0 + 2) ys
theorem mkLabels_length : ∀ (k0 : Int) (l : List S164), (mkLabels k0 l).length = l.length
  | _, [] => rfl
  | k0, y :: ys => by simp [mkLabels, mkLabels_length _ ys]
theorem cnLabels_le : ∀ (l : List S164), l.length ≤ cnLabels l
  | [] => Nat.le_refl _
  | y :: ys => by have := cnLabels_le ys; simp only [cnLabels, List.length_cons]; omega
theorem rdmmLabel (pre suf : List S164) (y : S164) : rd_T164 (pre ++ y :: suf) (pre.length : Int) = y := by unfold rd_T164; simp
theorem markLabelS_l0 : ∀ (suf pre : List S164) (k0 : Int), 0 ≤ k0 → k0 + (cnLabels suf : Int) < 4611686018427387904 → (pre ++ suf).length < 4611686018427387904 → Ev (fun k => laws_markLabelS.l0 k (pre ++ suf) k0 (pre.length : Int)) (k0 + (cnLabels suf : Int), pre ++ mkLabels k0 suf)
  | [], pre, k0, h0, h1, h => by
    refine Ev.step (f := fun _ => some (k0, pre ++ [])) (fun k => ?_) (by rw [show (k0 + (cnLabels [] : Int), pre ++ mkLabels k0 []) = (k0, pre ++ []) from by simp [cnLabels, mkLabels]]; exact Ev.now _)
    simp only [laws_markLabelS.l0]
    rw [if_neg (not_lt_end pre)]
  | y :: suf, pre, k0, h0, h1, h => by
    have hp : pre.length < 4611686018427387904 := by simp at h; omega
    have hc : cnLabels (y :: suf) = 2 + cnLabels suf := rfl
    rw [hc] at h1 ⊢
    obtain ⟨K, g⟩ := markLabelS_l0 suf (pre ++ [(⟨mkText k0, mkText (k0 + 1)⟩ : S164)]) (k0 + 2) (by omega) (by omega) (by simpa using h)
    obtain ⟨K0, g0⟩ := markText_ev k0 (by omega) (by omega)
    obtain ⟨K1, g1⟩ := markText_ev (k0 + 1) (by omega) (by omega)
    refine ⟨K + K0 + K1 + 1, fun k hk => ?_⟩
    obtain ⟨k, rfl⟩ : ∃ m, k = m + 1 := ⟨k - 1, by omega⟩
    have G := g k (by omega)
    have G0 := g0 k (by omega)
    have G1 := g1 k (by omega)
    dsimp only at G G0 G1
    have w0 : wrap64 (k0 + 1) = (k0 + 1) := (wrap_id (by omega) (by omega)).trans (by omega)
    have w1 : wrap64 ((k0 + 1) + 1) = (k0 + 2) := (wrap_id (by omega) (by omega)).trans (by omega)
    simp only [laws_markLabelS.l0]
    rw [if_pos (lt_mid pre suf y)]
    simp only [nn, if_true, rdmmLabel, Option.bind_some, Int.toNat_natCast, set_mid, wrap_up pre.length (by omega), G0, G1, w0, w1]
    have eL : pre ++ (⟨mkText k0, mkText (k0 + 1)⟩ : S164) :: suf = (pre ++ [(⟨mkText k0, mkText (k0 + 1)⟩ : S164)]) ++ suf := by simp
    have eN : ((pre.length + 1 : Nat) : Int) = ((pre ++ [(⟨mkText k0, mkText (k0 + 1)⟩ : S164)]).length : Int) := by simp
    rw [eL, eN, G]
    refine congrArg some (Prod.ext ?_ ?_)
    · simp only []; push_cast; omega
    · simp [mkLabels]
theorem markLabelS_ev (l : List S164) (k0 : Int) (h0 : 0 ≤ k0) (h1 : k0 + (cnLabels l : Int) < 4611686018427387904) : Ev (fun k => laws_markLabelS.f k l k0) (k0 + (cnLabels l : Int), mkLabels k0 l) := by
  have := cnLabels_le l
  exact Ev.congr (fun k => by unfold laws_markLabelS.f; rfl) (markLabelS_l0 l [] k0 h0 h1 (by simp; omega))
theorem heldLabelS_l0 : ∀ (suf pre : List S164) (k0 : Int), 0 ≤ k0 → k0 + (cnLabels suf : Int) < 4611686018427387904 → (pre ++ suf).length < 4611686018427387904 → Ev (fun k => laws_heldLabelS.l0 k (pre ++ mkLabels k0 suf) k0 (pre.length : Int)) (k0 + (cnLabels suf : Int))
  | [], pre, k0, h0, h1, h => by
    refine Ev.step (f := fun _ => some k0) (fun k => ?_) (by simpa [cnLabels] using Ev.now k0)
    rw [show mkLabels k0 [] = [] from rfl]
    simp only [laws_heldLabelS.l0]
    rw [if_neg (not_lt_end pre)]
  | y :: suf, pre, k0, h0, h1, h => by
    have hp : pre.length < 4611686018427387904 := by simp at h; omega
    have hc : cnLabels (y :: suf) = 2 + cnLabels suf := rfl
    rw [hc] at h1 ⊢
    obtain ⟨K, g⟩ := heldLabelS_l0 suf (pre ++ [(⟨mkText k0, mkText (k0 + 1)⟩ : S164)]) (k0 + 2) (by omega) (by omega) (by simpa using h)
    obtain ⟨K0, g0⟩ := markText_ev k0 (by omega) (by omega)
    obtain ⟨K1, g1⟩ := markText_ev (k0 + 1) (by omega) (by omega)
    refine ⟨K + K0 + K1 + 1, fun k hk => ?_⟩
    obtain ⟨k, rfl⟩ : ∃ m, k = m + 1 := ⟨k - 1, by omega⟩
    have G := g k (by omega)
    have G0 := g0 k (by omega)
    have G1 := g1 k (by omega)
    dsimp only at G G0 G1
    have w0 : wrap64 (k0 + 1) = (k0 + 1) := (wrap_id (by omega) (by omega)).trans (by omega)
    have w1 : wrap64 ((k0 + 1) + 1) = (k0 + 2) := (wrap_id (by omega) (by omega)).trans (by omega)
    rw [show mkLabels k0 (y :: suf) = ⟨mkText k0, mkText (k0 + 1)⟩ :: mkLabels (k0 + 2) suf from rfl]
    simp only [laws_heldLabelS.l0]
    rw [if_pos (lt_mid pre _ _)]
    simp only [nn, if_true, if_false, rdmmLabel, Option.bind_some, wrap_up pre.length (by omega), G0, G1, w0, w1, bne_self_eq_false, Bool.false_eq_true]
    have eL : pre ++ (⟨mkText k0, mkText (k0 + 1)⟩ : S164) :: mkLabels (k0 + 2) suf = (pre ++ [(⟨mkText k0, mkText (k0 + 1)⟩ : S164)]) ++ mkLabels (k0 + 2) suf := by simp
    have eN : ((pre.length + 1 : Nat) : Int) = ((pre ++ [(⟨mkText k0, mkText (k0 + 1)⟩ : S164)]).length : Int) := by simp
    rw [eL, eN, G]
    refine congrArg some ?_
    push_cast; omega
theorem heldLabelS_ev (l : List S164) (k0 : Int) (h0 : 0 ≤ k0) (h1 : k0 + (cnLabels l : Int) < 4611686018427387904) : Ev (fun k => laws_heldLabelS.f k (mkLabels k0 l) k0) (k0 + (cnLabels l : Int)) := by
  have := cnLabels_le l
  exact Ev.congr (fun k => by unfold laws_heldLabelS.f; rfl) (heldLabelS_l0 l [] k0 h0 h1 (by simp; omega))
def cnAlarms : List S44 → Nat
  | [] => 0
  | y :: ys => cnLabels y.f0 + 3 + cnAlarms ys
noncomputable def mkAlarms : Int → List S44 → List S44
  | _, [] => []
  | k0, y :: ys => ⟨mkLabels k0 y.f0, (k0 + (cnLabels y.f0 : Int)), (k0 + (cnLabels y.f0 : Int) + 1), mkText (k0 + (cnLabels y.f0 : Int) + 2)⟩ :: mkAlarms (k0 + (cnLabels y.f0 : Int) + 3) ys
theorem mkAlarms_length : ∀ (k0 : Int) (l : List S44), (mkAlarms k0 l).length = l.length
  | _, [] => rfl
  | k0, y :: ys => by simp [mkAlarms, mkAlarms_length _ ys]
theorem cnAlarms_le : ∀ (l : List S44), l.length ≤ cnAlarms l
  | [] => Nat.le_refl _
  | y :: ys => by have := cnAlarms_le ys; simp only [cnAlarms, List.length_cons]; omega
theorem rdmmAlarm (pre suf : List S44) (y : S44) : rd_T44 (pre ++ y :: suf) (pre.length : Int) = y := by unfold rd_T44; simp
theorem markAlarmS_l0 : ∀ (suf pre : List S44) (k0 : Int), 0 ≤ k0 → k0 + (cnAlarms suf : Int) < 4611686018427387904 → (pre ++ suf).length < 4611686018427387904 → Ev (fun k => laws_markAlarmS.l0 k (pre ++ suf) k0 (pre.length : Int)) (k0 + (cnAlarms suf : Int), pre ++ mkAlarms k0 suf)
  | [], pre, k0, h0, h1, h => by
    refine Ev.step (f := fun _ => some (k0, pre ++ [])) (fun k => ?_) (by rw [show (k0 + (cnAlarms [] : Int), pre ++ mkAlarms k0 []) = (k0, pre ++ []) from by simp [cnAlarms, mkAlarms]]; exact Ev.now _)
    simp only [laws_markAlarmS.l0]
    rw [if_neg (not_lt_end pre)]
  | y :: suf, pre, k0, h0, h1, h => by
    have hp : pre.length < 4611686018427387904 := by simp at h; omega
    have hc : cnAlarms (y :: suf) = cnLabels y.f0 + 3 + cnAlarms suf := rfl
    rw [hc] at h1 ⊢
    obtain ⟨K, g⟩ := markAlarmS_l0 suf (pre ++ [(⟨mkLabels k0 y.f0, (k0 + (cnLabels y.f0 : Int)), (k0 + (cnLabels y.f0 : Int) + 1), mkText (k0 + (cnLabels y.f0 : Int) + 2)⟩ : S44)]) (k0 + (cnLabels y.f0 : Int) + 3) (by omega) (by omega) (by simpa using h)
    obtain ⟨K0, g0⟩ := markLabelS_ev y.f0 k0 (by omega) (by omega)
    obtain ⟨K1, g1⟩ := markText_ev (k0 + (cnLabels y.f0 : Int) + 2) (by omega) (by omega)
    refine ⟨K + K0 + K1 + 1, fun k hk => ?_⟩
    obtain ⟨k, rfl⟩ : ∃ m, k = m + 1 := ⟨k - 1, by omega⟩
    have G := g k (by omega)
    have G0 := g0 k (by omega)
    have G1 := g1 k (by omega)
    dsimp only at G G0 G1
    have w1 : wrap64 ((k0 + (cnLabels y.f0 : Int)) + 1) = (k0 + (cnLabels y.f0 : Int) + 1) := (wrap_id (by omega) (by omega)).trans (by omega)
    have w2 : wrap64 ((k0 + (cnLabels y.f0 : Int) + 1) + 1) = (k0 + (cnLabels y.f0 : Int) + 2) := (wrap_id (by omega) (by omega)).trans (by omega)
    have w3 : wrap64 ((k0 + (cnLabels y.f0 : Int) + 2) + 1) = (k0 + (cnLabels y.f0 : Int) + 3) := (wrap_id (by omega) (by omega)).trans (by omega)
    simp only [laws_markAlarmS.l0]
    rw [if_pos (lt_mid pre suf y)]
    simp only [nn, if_true, rdmmAlarm, Option.bind_some, Int.toNat_natCast, set_mid, wrap_up pre.length (by omega), G0, G1, w1, w2, w3]
    have eL : pre ++ (⟨mkLabels k0 y.f0, (k0 + (cnLabels y.f0 : Int)), (k0 + (cnLabels y.f0 : Int) + 1), mkText (k0 + (cnLabels y.f0 : Int) + 2)⟩ : S44) :: suf = (pre ++ [(⟨mkLabels k0 y.f0, (k0 + (cnLabels y.f0 : Int)), (k0 + (cnLabels y.f0 : Int) + 1), mkText (k0 + (cnLabels y.f0 : Int) + 2)⟩ : S44)]) ++ suf := by simp
    have eN : ((pre.length + 1 : Nat) : Int) = ((pre ++ [(⟨mkLabels k0 y.f0, (k0 + (cnLabels y.f0 : Int)), (k0 + (cnLabels y.f0 : Int) + 1), mkText (k0 + (cnLabels y.f0 : Int) + 2)⟩ : S44)]).length : Int) := by simp
    rw [eL, eN, G]
    refine congrArg some (Prod.ext ?_ ?_)
    · simp only []; push_cast; omega
    · simp [mkAlarms]
theorem markAlarmS_ev (l : List S44) (k0 : Int) (h0 : 0 ≤ k0) (h1 : k0 + (cnAlarms l : Int) < 4611686018427387904) : Ev (fun k => laws_markAlarmS.f k l k0) (k0 + (cnAlarms l : Int), mkAlarms k0 l) := by
  have := cnAlarms_le l
  exact Ev.congr (fun k => by unfold laws_markAlarmS.f; rfl) (markAlarmS_l0 l [] k0 h0 h1 (by simp; omega))
theorem heldAlarmS_l0 : ∀ (suf pre : List S44) (k0 : Int), 0 ≤ k0 → k0 + (cnAlarms suf : Int) < 4611686018427387904 → (pre ++ suf).length < 4611686018427387904 → Ev (fun k => laws_heldAlarmS.l0 k (pre ++ mkAlarms k0 suf) k0 (pre.length : Int)) (k0 + (cnAlarms suf : Int))
  | [], pre, k0, h0, h1, h => by
    refine Ev.step (f := fun _ => some k0) (fun k => ?_) (by simpa [cnAlarms] using Ev.now k0)
    rw [show mkAlarms k0 [] = [] from rfl]
    simp only [laws_heldAlarmS.l0]
    rw [if_neg (not_lt_end pre)]
  | y :: suf, pre, k0, h0, h1, h => by
    have hp : pre.length < 4611686018427387904 := by simp at h; omega
    have hc : cnAlarms (y :: suf) = cnLabels y.f0 + 3 + cnAlarms suf := rfl
    rw [hc] at h1 ⊢
    obtain ⟨K, g⟩ := heldAlarmS_l0 suf (pre ++ [(⟨mkLabels k0 y.f0, (k0 + (cnLabels y.f0 : Int)), (k0 + (cnLabels y.f0 : Int) + 1), mkText (k0 + (cnLabels y.f0 : Int) + 2)⟩ : S44)]) (k0 + (cnLabels y.f0 : Int) + 3) (by omega) (by omega) (by simpa using h)
    obtain ⟨K0, g0⟩ := heldLabelS_ev y.f0 k0 (by omega) (by omega)
    obtain ⟨K1, g1⟩ := markText_ev (k0 + (cnLabels y.f0 : Int) + 2) (by omega) (by omega)
    refine ⟨K + K0 + K1 + 1, fun k hk => ?_⟩
    obtain ⟨k, rfl⟩ : ∃ m, k = m + 1 := ⟨k - 1, by omega⟩
    have G := g k (by omega)
    have G0 := g0 k (by omega)
    have G1 := g1 k (by omega)
    dsimp only at G G0 G1
    have w1 : wrap64 ((k0 + (cnLabels y.f0 : Int)) + 1) = (k0 + (cnLabels y.f0 : Int) + 1) := (wrap_id (by omega) (by omega)).trans (by omega)
    have w2 : wrap64 ((k0 + (cnLabels y.f0 : Int) + 1) + 1) = (k0 + (cnLabels y.f0 : Int) + 2) := (wrap_id (by omega) (by omega)).trans (by omega)
    have w3 : wrap64 ((k0 + (cnLabels y.f0 : Int) + 2) + 1) = (k0 + (cnLabels y.f0 : Int) + 3) := (wrap_id (by omega) (by omega)).trans (by omega)
    have n0 : ¬ (k0 + (cnLabels y.f0 : Int) < 0) := by omega
    rw [show mkAlarms k0 (y :: suf) = ⟨mkLabels k0 y.f0, (k0 + (cnLabels y.f0 : Int)), (k0 + (cnLabels y.f0 : Int) + 1), mkText (k0 + (cnLabels y.f0 : Int) + 2)⟩ :: mkAlarms (k0 + (cnLabels y.f0 : Int) + 3) suf from rfl]
    simp only [laws_heldAlarmS.l0]
    rw [if_pos (lt_mid pre _ _)]
    simp only [nn, if_true, if_false, rdmmAlarm, Option.bind_some, wrap_up pre.length (by omega), G0, G1, w1, w2, w3, n0, bne_self_eq_false, Bool.false_eq_true]
    have eL : pre ++ (⟨mkLabels k0 y.f0, (k0 + (cnLabels y.f0 : Int)), (k0 + (cnLabels y.f0 : Int) + 1), mkText (k0 + (cnLabels y.f0 : Int) + 2)⟩ : S44) :: mkAlarms (k0 + (cnLabels y.f0 : Int) + 3) suf = (pre ++ [(⟨mkLabels k0 y.f0, (k0 + (cnLabels y.f0 : Int)), (k0 + (cnLabels y.f0 : Int) + 1), mkText (k0 + (cnLabels y.f0 : Int) + 2)⟩ : S44)]) ++ mkAlarms (k0 + (cnLabels y.f0 : Int) + 3) suf := by simp
    have eN : ((pre.length + 1 : Nat) : Int) = ((pre ++ [(⟨mkLabels k0 y.f0, (k0 + (cnLabels y.f0 : Int)), (k0 + (cnLabels y.f0 : Int) + 1), mkText (k0 + (cnLabels y.f0 : Int) + 2)⟩ : S44)]).length : Int) := by simp
    rw [eL, eN, G]
    refine congrArg some ?_
    push_cast; omega
theorem heldAlarmS_ev (l : List S44) (k0 : Int) (h0 : 0 ≤ k0) (h1 : k0 + (cnAlarms l : Int) < 4611686018427387904) : Ev (fun k => laws_heldAlarmS.f k (mkAlarms k0 l) k0) (k0 + (cnAlarms l : Int)) := by
  have := cnAlarms_le l
  exact Ev.congr (fun k => by unfold laws_heldAlarmS.f; rfl) (heldAlarmS_l0 l [] k0 h0 h1 (by simp; omega))
theorem cnLabels_eq : ∀ l : List S164, cnLabels l = 2 * l.length
  | [] => rfl
  | y :: ys => by have := cnLabels_eq ys; simp only [cnLabels, List.length_cons]; omega
theorem cnLabels_wi {l : List S164} (h : l.length ≤ 4000000 ∧ ∀ y ∈ l, WiLabel y) : cnLabels l ≤ 8000000 := by have := h.1; rw [cnLabels_eq]; omega
theorem cnAlarms_le2 : ∀ l : List S44, (∀ y ∈ l, WiAlarm y) → cnAlarms l ≤ l.length * 8000003
  | [], _ => Nat.le_refl _
  | y :: ys, h => by
    have h1 := cnAlarms_le2 ys (fun z hz => h z (List.mem_cons_of_mem _ hz))
    have h2 := cnLabels_wi (h y List.mem_cons_self).1
    simp only [cnAlarms, List.length_cons]
    omega
theorem cnAlarms_wi {l : List S44} (h : l.length ≤ 4000000 ∧ ∀ y ∈ l, WiAlarm y) : cnAlarms l ≤ 40000000000000 := by
  have h1 := cnAlarms_le2 l h.2
  have h2 := Nat.mul_le_mul_right 8000003 h.1
  omega
def cvSub (x : S31) : S39 := ⟨(x.f0.map cvAlarm), x.f1⟩
def WSub (x : S31) : Prop := (x.f0.length ≤ 1048576 ∧ ∀ y ∈ x.f0, WAlarm y) ∧ True
def WiSub (x : S39) : Prop := (x.f0.length ≤ 4000000 ∧ ∀ y ∈ x.f0, WiAlarm y) ∧ True
theorem Wi_cvSub {x : S31} (h : WSub x) : WiSub (cvSub x) := ⟨⟨by show (List.map cvAlarm x.f0).length ≤ 4000000; rw [List.length_map]; exact Nat.le_trans h.1.1 (by decide), fun y hy => by obtain ⟨z, hz, rfl⟩ := List.mem_map.1 hy; exact Wi_cvAlarm (h.1.2 z hz)⟩, trivial⟩
theorem szSub_ev (x : S31) (hB : B31 x) (n : Int) (h0 : 0 ≤ n) (h1 : n ≤ 1048576) : ∃ r, Ev (fun k => laws_szSub.f k x.f0 x.f1 n) r ∧ r ≤ n ∧ (0 ≤ r → WSub x) := by
  obtain ⟨r1, ⟨K1, g1⟩, l1, w1⟩ := szAlarmS_ev x.f0 hB.1 n (by omega) (by omega)
  by_cases c1 : r1 < 0
  · exact ⟨-1, ⟨K1, fun k hk => by simp [laws_szSub.f, g1 k (by omega), c1]⟩, by omega, by omega⟩
  exact ⟨r1, ⟨K1, fun k hk => by simp [laws_szSub.f, g1 k (by omega), c1]⟩, by omega, fun _ => ⟨(w1 (by omega)), trivial⟩⟩
theorem toSub_ev (x : S31) (h : WSub x) : Ev (fun k => laws_toSub.f k x.f0 x.f1) ((cvSub x).f0, (cvSub x).f1) := by
  obtain ⟨K0, g0⟩ := toAlarmS_ev x.f0 h.1
  exact ⟨K0, fun k hk => by simp [laws_toSub.f, cvSub, g0 k (by omega)]⟩
theorem eqSub_ev (x : S39) (h : WiSub x) : Ev (fun k => laws_eqSub.f k x.f0 x.f1 x.f0 x.f1) true := by
  obtain ⟨K0, g0⟩ := eqAlarmS_ev x.f0 h.1
  exact ⟨K0, fun k hk => by simp [laws_eqSub.f, g0 k (by omega)]⟩
end Go.Proofs.Ytfholjcelnkleaa.Print
end
