-- Written by printx.py, a program of this session (wip/gen), over the kit's print.py.
import Derived.Test.YtmmaondenopnpaaF0
import Derived.Test.YtmmaondenopnpaaQMark
import Derived.Test.YtmmaondenopnpaaF63
import Derived.Test.YtmmaondenopnpaaF64
namespace Go.Proofs.Ytmmaondenopnpaa.Print
open Go.RowKit Go.Proofs.YtmmaondenopnpaaV.PrintWords Go.Proofs.YtmmaondenopnpaaV.PrintLast Go.Proofs.YtmmaondenopnpaaV.PrintMore
attribute [local go_sem] max2_int min2_int max_two min_two max_three min_three max_four min_four   -- for this text's walks alone
set_option linter.unusedVariables false
set_option linter.unusedSimpArgs false

/-! ### laws_markAlarmS: function 95 -/
def laws_markAlarmS.l0 : Nat → List S57 → Int → Int → Option (Int × (List S57))
 | 0, _, _, _ => none
 | k + 1, x0, x1, x5 => if x5 < (x0.length : Int) then (if 0 ≤ x5 then ((laws_markLabelS.f k (rd_T57 x0 x5).f0 x1).bind fun b0 => ((laws_markText.f k (wrap64 ((wrap64 (b0.1 + 1)) + 1))).bind fun b3 => (laws_markAlarmS.l0 k (x0.set x5.toNat (⟨b0.2, b0.1, wrap64 (b0.1 + 1), b3⟩ : S57)) (wrap64 ((wrap64 ((wrap64 (b0.1 + 1)) + 1)) + 1)) (wrap64 (x5 + 1))))) else (none)) else (some (x1, x0))
def laws_markAlarmS.f (k : Nat) (l0 : List S57) (a1 : Int) : Option (Int × (List S57)) := laws_markAlarmS.l0 k l0 a1 0
theorem laws_markAlarmS.mono_l : ∀ k, (∀ y0 y1 y2, LeO (laws_markAlarmS.l0 k y0 y1 y2) (laws_markAlarmS.l0 (k + 1) y0 y1 y2))
 | 0 => fun _ _ _ r h => by simp [laws_markAlarmS.l0] at h
 | k + 1 => by
  have ih0 := laws_markAlarmS.mono_l k
  ·
   intro y0 y1 y2
   unfold laws_markAlarmS.l0
   repeat' first
   | (with_reducible exact ih0 _ _ _)
   | (with_reducible exact laws_markLabelS.mono _ _ _)
   | (with_reducible exact laws_markText.mono _ _)
   | (with_reducible exact LeO.refl _)
   | (with_reducible exact LeO.none _)
   | (with_reducible refine LeO.ite ?_ ?_)
   | (with_reducible refine LeO.bind ?_ (fun _ => ?_))
   | exact ih0 _ _ _
   | exact laws_markLabelS.mono _ _ _
   | exact laws_markText.mono _ _
   | exact LeO.none _
   | refine LeO.ite ?_ ?_
   | refine LeO.bind ?_ (fun _ => ?_)
theorem laws_markAlarmS.mono : ∀ a0 a1 k, LeO (laws_markAlarmS.f k a0 a1) (laws_markAlarmS.f (k + 1) a0 a1) := by
 intro a0 a1 k
 have ih0 := laws_markAlarmS.mono_l k
 unfold laws_markAlarmS.f
 repeat' first
   | (with_reducible exact ih0 _ _ _)
   | (with_reducible exact laws_markLabelS.mono _ _ _)
   | (with_reducible exact laws_markText.mono _ _)
   | (with_reducible exact LeO.refl _)
   | (with_reducible exact LeO.none _)
   | (with_reducible refine LeO.ite ?_ ?_)
   | (with_reducible refine LeO.bind ?_ (fun _ => ?_))
   | exact ih0 _ _ _
   | exact laws_markLabelS.mono _ _ _
   | exact laws_markText.mono _ _
   | exact LeO.none _
   | refine LeO.ite ?_ ?_
   | refine LeO.bind ?_ (fun _ => ?_)
set_option maxHeartbeats 8000000 in
set_option maxRecDepth 100000 in
theorem laws_markAlarmS.calls (k : Nat) (P0_ : Nat → Prop) (u9000_ : Value) (l0 : List S57) (a1 : Int) (r1 : Int) (r2 : List S57) (w0 w : World) (hB : Below w0.heap.size w0 w) (ho0 : Kd.S k57 57 w w0.heap.size P0_ u9000_ l0) (h : laws_markAlarmS.f k l0 a1 = some (r1, r2)) :
  Calls Try.prog 95 #[u9000_, .int .i64 a1] w fun e w' => e = .returned (.int .i64 r1) ∧ Kd.S k57 57 w' w0.heap.size P0_ u9000_ r2 ∧ Below w0.heap.size w0 w' ∧ Kept w w' (fun k_ => P0_ k_) := by
 have HO := Aside0.mk ho0
 have HK := Aside0.mk (Kept.refl w (fun k_ => P0_ k_))
 have HB := Aside0.mk hB
 clear hB ho0
 have H' := Aside0.mk (show laws_markAlarmS.l0 k l0 a1 0 = some (r1, r2) from h)
 clear h
 go_enter Try.func95, Try.ntmps95
 go_wp2
 go_loopg [1, 5] k (fun kq v1 v5 w' => ∃ (x0_1 : List S57) (x1_1 : Int) (x5_1 : Int), v1 = .int .i64 x1_1 ∧ v5 = .int .i64 x5_1 ∧ Aside0 (laws_markAlarmS.l0 kq x0_1 x1_1 x5_1 = some (r1, r2)) ∧ Aside0 (kq ≤ k) ∧ Aside0 (Kd.S k57 57 w' w0.heap.size P0_ u9000_ x0_1) ∧ Aside0 (Kept w w' (fun k_ => P0_ k_)) ∧ Aside0 (Below w0.heap.size w0 w'))
 case atStart => exact ⟨l0, a1, 0, (by first | rfl | (simp; done) | (simp [*]; done)), (by first | rfl | (simp; done) | (simp [*]; done)), H', ⟨Nat.le_refl _⟩, ⟨(by (with_reducible repeat (first | apply Kd.S_alloc | apply Kd.S_drewN | apply Kd.S_drew)); exact HO.out)⟩, ⟨(by repeat (first | (with_reducible first | exact HK.out | apply Kept.alloc | apply Kept.drewN | apply Kept.drew) | exact HK.out))⟩, ⟨(by repeat (first | (with_reducible first | exact HB.out | apply below_alloc | apply pw_below_drewN | apply below_drew1) | exact HB.out))⟩⟩
 case round =>
  clear H'
  obtain ⟨x0_1, x1_1, x5_1, rfl, rfl, HA, HK1, HO, HK, HB⟩ := hrel
  cases gk with
  | zero => exact absurd HA.out (by simp [laws_markAlarmS.l0])
  | succ k1 =>
   have H := HA.out
   clear HA
   simp only [laws_markAlarmS.l0] at H
   by_cases c3 : x5_1 < (x0_1.length : Int)
   ·
    rw [if_pos c3] at H
    have c3b0 : decide (x5_1 < (x0_1.length : Int)) = true := decide_eq_true c3
    by_cases c4 : 0 ≤ x5_1
    ·
     rw [if_pos c4] at H
     have c4b0 : decide (0 ≤ x5_1) = true := decide_eq_true c4
     obtain ⟨⟨t0, s0⟩, A0_, H⟩ := Option.bind_eq_some_iff.mp H
     have A0 := Aside0.mk A0_; clear A0_; dsimp only at H A0
     obtain ⟨s3, A3_, H⟩ := Option.bind_eq_some_iff.mp H
     have A3 := Aside0.mk A3_; clear A3_; (try dsimp only at H A3)
     have H' := Aside0.mk H
     clear H
     obtain ⟨Ao, co, eo⟩ := Kd.S_slice HO.out
     subst eo
     obtain ⟨go, co_, eo_, gb_, gl_, cl_, HG_⟩ := Kd.S_form HO.out (by omega)
     (first | cases eo_ | (injection eo_ with ea_ en_ ec_; (first | subst ea_ | (injection ea_ with ea_; subst ea_)); subst ec_; clear en_))
     have GB := Aside0.mk gb_
     clear gb_ gl_ HG_
     have p5 : (0 ≤ (x5_1 : Int)) = True := eq_true c4
     have q5 : ((x5_1 : Int) < (x0_1.length : Int)) = True := eq_true c3
     have HO1 := Aside0.mk (show Kd.S k57 57 wr w0.heap.size P0_ (.slice (some ⟨go, 0, none⟩) x0_1.length co) (x0_1.set (x5_1 : Int).toNat (rd_T57 x0_1 x5_1)) from S_begin HO.out z57 x5_1 c4 c3)
     clear HO
     have HO := HO1
     clear HO1
     obtain ⟨oki1, ce1, hM1, hcc1, hfr1, hoki1, hin1, hput1⟩ := S_hand HO.out c4 c3
     obtain ⟨ve1_0, rfl, ge1_0⟩ := k57_openM hM1
     have hx1_0 : wr.cell? ⟨go, (x5_1 : Int).toNat * 4, none⟩ = some (ve1_0) := hcc1 0 _ rfl
     have hf1_0 : wr.frozen? ⟨go, (x5_1 : Int).toNat * 4, none⟩ = false := hfr1 0
     have hx1_1 : wr.cell? ⟨go, (x5_1 : Int).toNat * 4 + 1, none⟩ = some (.int .i64 ((rd_T57 x0_1 x5_1).f1)) := hcc1 1 _ rfl
     have hf1_1 : wr.frozen? ⟨go, (x5_1 : Int).toNat * 4 + 1, none⟩ = false := hfr1 1
     have hx1_2 : wr.cell? ⟨go, (x5_1 : Int).toNat * 4 + 2, none⟩ = some (.int .i64 ((rd_T57 x0_1 x5_1).f2)) := hcc1 2 _ rfl
     have hf1_2 : wr.frozen? ⟨go, (x5_1 : Int).toNat * 4 + 2, none⟩ = false := hfr1 2
     have hx1_3 : wr.cell? ⟨go, (x5_1 : Int).toNat * 4 + 3, none⟩ = some (.string ((rd_T57 x0_1 x5_1).f3)) := hcc1 3 _ rfl
     have hf1_3 : wr.frozen? ⟨go, (x5_1 : Int).toNat * 4 + 3, none⟩ = false := hfr1 3
     clear hcc1 hfr1 hM1
     go_wp2_with (first | ((with_reducible refine gate_callee (f := 103) rfl ?_); refine goesL_ (some 18) rfl rfl Try.func103 (by kernel_rfl) rfl #[ve1_0, .int .i64 x1_1] rfl (by (try simp only [List.map_toArray, List.map_cons, List.map_nil]); first | done | rfl | (simp only [List.length_drop, List.length_take]; rfl)) ?_; (with_reducible refine (laws_markLabelS.calls k1 oki1 ve1_0 ((rd_T57 x0_1 x5_1).f0) x1_1 t0 s0 w0 _ (by repeat (first | (with_reducible first | exact HB.out | apply below_alloc | apply pw_below_drewN | apply below_drew1) | exact HB.out)) ge1_0 A0.out).mono ?_); rintro e wm1 ⟨rfl, hy, hb, hkp⟩; refine ⟨_, rfl, ?_⟩; have n0_ := Aside0.mk (hin1 wm1 (⟨s0, ((rd_T57 x0_1 x5_1).f1), ((rd_T57 x0_1 x5_1).f2), ((rd_T57 x0_1 x5_1).f3)⟩ : S57) hkp (k57_mkM _ _ _ (⟨s0, ((rd_T57 x0_1 x5_1).f1), ((rd_T57 x0_1 x5_1).f2), ((rd_T57 x0_1 x5_1).f3)⟩ : S57) (Kd.R_reok rfl hy (fun k_ e_ => ge1_0.1 k_ e_)))); have n1_ := Aside0.mk (Kept.then_ (S := (fun k_ => P0_ k_)) (by repeat (first | (with_reducible first | exact HK.out | apply Kept.alloc | apply Kept.drewN | apply Kept.drew) | exact HK.out)) hkp (fun k_ h_ => .inl (hoki1 k_ h_).1)); have n2_ := Aside0.mk hb; clear HO HK HB; have HO := n0_; have HK := n1_; have HB := n2_; clear n0_ n1_ n2_; obtain ⟨oki2, ce2, hM2, hcc2, hfr2, hoki2, hin2, hput2⟩ := S_hand HO.out c4 c3; obtain ⟨ve2_0, rfl, ge2_0⟩ := k57_openM hM2; have hx2_0 : wm1.cell? ⟨go, (x5_1 : Int).toNat * 4, none⟩ = some (ve2_0) := hcc2 0 _ rfl; have hf2_0 : wm1.frozen? ⟨go, (x5_1 : Int).toNat * 4, none⟩ = false := hfr2 0; have hx2_1 : wm1.cell? ⟨go, (x5_1 : Int).toNat * 4 + 1, none⟩ = some (.int .i64 ((rd_T57 x0_1 x5_1).f1)) := hcc2 1 _ rfl; have hf2_1 : wm1.frozen? ⟨go, (x5_1 : Int).toNat * 4 + 1, none⟩ = false := hfr2 1; have hx2_2 : wm1.cell? ⟨go, (x5_1 : Int).toNat * 4 + 2, none⟩ = some (.int .i64 ((rd_T57 x0_1 x5_1).f2)) := hcc2 2 _ rfl; have hf2_2 : wm1.frozen? ⟨go, (x5_1 : Int).toNat * 4 + 2, none⟩ = false := hfr2 2; have hx2_3 : wm1.cell? ⟨go, (x5_1 : Int).toNat * 4 + 3, none⟩ = some (.string ((rd_T57 x0_1 x5_1).f3)) := hcc2 3 _ rfl; have hf2_3 : wm1.frozen? ⟨go, (x5_1 : Int).toNat * 4 + 3, none⟩ = false := hfr2 3; clear hcc2 hfr2 hM2) | ((with_reducible refine gate_store (t := 3) (p := 23) rfl ?_); refine store_event (t := 3) (p := 23) (v := ?vo_wm2) (w1 := (wm1.setCell ⟨go, (x5_1 : Int).toNat * 4 + 1, none⟩ (.int .i64 t0))) ?hg ?ho ?hn ?hr ?_; (case ho => rfl); (case hg => rfl); (case hn => rfl); (case hr => first | (go_simp; done) | (go_simp; rfl)); intro wm2 hw; have hs_ := hput2 (.int .i64 t0) 1 (⟨s0, t0, ((rd_T57 x0_1 x5_1).f2), ((rd_T57 x0_1 x5_1).f3)⟩ : S57) rfl (by decide) (k57_mkM _ _ _ (⟨s0, t0, ((rd_T57 x0_1 x5_1).f2), ((rd_T57 x0_1 x5_1).f3)⟩ : S57) ge2_0); have hg : wm1.grownBy wm2 (some go) := (by rw [hw]; exact hs_.2); have n0_ := Aside0.mk (show Kd.S k57 57 wm2 w0.heap.size P0_ (.slice (some ⟨go, 0, none⟩) x0_1.length co) (x0_1.set (x5_1 : Int).toNat (⟨s0, t0, ((rd_T57 x0_1 x5_1).f2), ((rd_T57 x0_1 x5_1).f3)⟩ : S57)) from (by rw [hw]; exact hs_.1)); have n2_ := Aside0.mk (show Below w0.heap.size w0 wm2 from (by rw [hw]; exact below_set (HB.out) GB.out)); have n1_ := Aside0.mk (Kept.of_grown (S := (fun k_ => P0_ k_)) hg (by repeat (first | (with_reducible first | exact HK.out | apply Kept.alloc | apply Kept.drewN | apply Kept.drew) | exact HK.out)) (fun k_ e_ => .inl ((Kd.S_R HO.out).1 k_ e_))); clear hg hw hs_; clear HO HK HB; have HO := n0_; have HK := n1_; have HB := n2_; clear n0_ n1_ n2_; obtain ⟨oki3, ce3, hM3, hcc3, hfr3, hoki3, hin3, hput3⟩ := S_hand HO.out c4 c3; obtain ⟨ve3_0, rfl, ge3_0⟩ := k57_openM hM3; have hx3_0 : wm2.cell? ⟨go, (x5_1 : Int).toNat * 4, none⟩ = some (ve3_0) := hcc3 0 _ rfl; have hf3_0 : wm2.frozen? ⟨go, (x5_1 : Int).toNat * 4, none⟩ = false := hfr3 0; have hx3_1 : wm2.cell? ⟨go, (x5_1 : Int).toNat * 4 + 1, none⟩ = some (.int .i64 t0) := hcc3 1 _ rfl; have hf3_1 : wm2.frozen? ⟨go, (x5_1 : Int).toNat * 4 + 1, none⟩ = false := hfr3 1; have hx3_2 : wm2.cell? ⟨go, (x5_1 : Int).toNat * 4 + 2, none⟩ = some (.int .i64 ((rd_T57 x0_1 x5_1).f2)) := hcc3 2 _ rfl; have hf3_2 : wm2.frozen? ⟨go, (x5_1 : Int).toNat * 4 + 2, none⟩ = false := hfr3 2; have hx3_3 : wm2.cell? ⟨go, (x5_1 : Int).toNat * 4 + 3, none⟩ = some (.string ((rd_T57 x0_1 x5_1).f3)) := hcc3 3 _ rfl; have hf3_3 : wm2.frozen? ⟨go, (x5_1 : Int).toNat * 4 + 3, none⟩ = false := hfr3 3; clear hcc3 hfr3 hM3) | ((with_reducible refine gate_store (t := 3) (p := 30) rfl ?_); refine store_event (t := 3) (p := 30) (v := ?vo_wm3) (w1 := (wm2.setCell ⟨go, (x5_1 : Int).toNat * 4 + 2, none⟩ (.int .i64 (wrap64 (t0 + 1))))) ?hg ?ho ?hn ?hr ?_; (case ho => rfl); (case hg => rfl); (case hn => rfl); (case hr => first | (go_simp; done) | (go_simp; rfl)); intro wm3 hw; have hs_ := hput3 (.int .i64 (wrap64 (t0 + 1))) 2 (⟨s0, t0, wrap64 (t0 + 1), ((rd_T57 x0_1 x5_1).f3)⟩ : S57) rfl (by decide) (k57_mkM _ _ _ (⟨s0, t0, wrap64 (t0 + 1), ((rd_T57 x0_1 x5_1).f3)⟩ : S57) ge3_0); have hg : wm2.grownBy wm3 (some go) := (by rw [hw]; exact hs_.2); have n0_ := Aside0.mk (show Kd.S k57 57 wm3 w0.heap.size P0_ (.slice (some ⟨go, 0, none⟩) x0_1.length co) (x0_1.set (x5_1 : Int).toNat (⟨s0, t0, wrap64 (t0 + 1), ((rd_T57 x0_1 x5_1).f3)⟩ : S57)) from (by rw [hw]; exact hs_.1)); have n2_ := Aside0.mk (show Below w0.heap.size w0 wm3 from (by rw [hw]; exact below_set (HB.out) GB.out)); have n1_ := Aside0.mk (Kept.of_grown (S := (fun k_ => P0_ k_)) hg (by repeat (first | (with_reducible first | exact HK.out | apply Kept.alloc | apply Kept.drewN | apply Kept.drew) | exact HK.out)) (fun k_ e_ => .inl ((Kd.S_R HO.out).1 k_ e_))); clear hg hw hs_; clear HO HK HB; have HO := n0_; have HK := n1_; have HB := n2_; clear n0_ n1_ n2_; obtain ⟨oki4, ce4, hM4, hcc4, hfr4, hoki4, hin4, hput4⟩ := S_hand HO.out c4 c3; obtain ⟨ve4_0, rfl, ge4_0⟩ := k57_openM hM4; have hx4_0 : wm3.cell? ⟨go, (x5_1 : Int).toNat * 4, none⟩ = some (ve4_0) := hcc4 0 _ rfl; have hf4_0 : wm3.frozen? ⟨go, (x5_1 : Int).toNat * 4, none⟩ = false := hfr4 0; have hx4_1 : wm3.cell? ⟨go, (x5_1 : Int).toNat * 4 + 1, none⟩ = some (.int .i64 t0) := hcc4 1 _ rfl; have hf4_1 : wm3.frozen? ⟨go, (x5_1 : Int).toNat * 4 + 1, none⟩ = false := hfr4 1; have hx4_2 : wm3.cell? ⟨go, (x5_1 : Int).toNat * 4 + 2, none⟩ = some (.int .i64 (wrap64 (t0 + 1))) := hcc4 2 _ rfl; have hf4_2 : wm3.frozen? ⟨go, (x5_1 : Int).toNat * 4 + 2, none⟩ = false := hfr4 2; have hx4_3 : wm3.cell? ⟨go, (x5_1 : Int).toNat * 4 + 3, none⟩ = some (.string ((rd_T57 x0_1 x5_1).f3)) := hcc4 3 _ rfl; have hf4_3 : wm3.frozen? ⟨go, (x5_1 : Int).toNat * 4 + 3, none⟩ = false := hfr4 3; clear hcc4 hfr4 hM4) | ((with_reducible refine gate_callee (f := 104) rfl ?_); refine goesL_ (some 36) rfl rfl Try.func104 (by kernel_rfl) rfl #[.int .i64 (wrap64 ((wrap64 (t0 + 1)) + 1))] rfl (by (try simp only [List.map_toArray, List.map_cons, List.map_nil]); first | done | rfl | (simp only [List.length_drop, List.length_take]; rfl)) ?_; (with_reducible refine (laws_markText.calls k1 (wrap64 ((wrap64 (t0 + 1)) + 1)) s3 _ A3.out).mono ?_); rintro e wm4 ⟨rfl, hb⟩; refine ⟨_, rfl, ?_⟩; have n0_ := Aside0.mk (Kd.S_below (by (with_reducible repeat (first | apply Kd.S_alloc | apply Kd.S_drewN | apply Kd.S_drew)); exact HO.out) hb); have n1_ := Aside0.mk (Kept.below (S := (fun k_ => P0_ k_)) (by repeat (first | (with_reducible first | exact HK.out | apply Kept.alloc | apply Kept.drewN | apply Kept.drew) | exact HK.out)) hb); have n2_ := Aside0.mk (below_step (by repeat (first | (with_reducible first | exact HB.out | apply below_alloc | apply pw_below_drewN | apply below_drew1) | exact HB.out)) hb); clear HO HK HB; have HO := n0_; have HK := n1_; have HB := n2_; clear n0_ n1_ n2_; obtain ⟨oki5, ce5, hM5, hcc5, hfr5, hoki5, hin5, hput5⟩ := S_hand HO.out c4 c3; obtain ⟨ve5_0, rfl, ge5_0⟩ := k57_openM hM5; have hx5_0 : wm4.cell? ⟨go, (x5_1 : Int).toNat * 4, none⟩ = some (ve5_0) := hcc5 0 _ rfl; have hf5_0 : wm4.frozen? ⟨go, (x5_1 : Int).toNat * 4, none⟩ = false := hfr5 0; have hx5_1 : wm4.cell? ⟨go, (x5_1 : Int).toNat * 4 + 1, none⟩ = some (.int .i64 t0) := hcc5 1 _ rfl; have hf5_1 : wm4.frozen? ⟨go, (x5_1 : Int).toNat * 4 + 1, none⟩ = false := hfr5 1; have hx5_2 : wm4.cell? ⟨go, (x5_1 : Int).toNat * 4 + 2, none⟩ = some (.int .i64 (wrap64 (t0 + 1))) := hcc5 2 _ rfl; have hf5_2 : wm4.frozen? ⟨go, (x5_1 : Int).toNat * 4 + 2, none⟩ = false := hfr5 2; have hx5_3 : wm4.cell? ⟨go, (x5_1 : Int).toNat * 4 + 3, none⟩ = some (.string ((rd_T57 x0_1 x5_1).f3)) := hcc5 3 _ rfl; have hf5_3 : wm4.frozen? ⟨go, (x5_1 : Int).toNat * 4 + 3, none⟩ = false := hfr5 3; clear hcc5 hfr5 hM5) | ((with_reducible refine gate_store (t := 9) (p := 38) rfl ?_); refine store_event (t := 9) (p := 38) (v := ?vo_wm5) (w1 := (wm4.setCell ⟨go, (x5_1 : Int).toNat * 4 + 3, none⟩ (.string s3))) ?hg ?ho ?hn ?hr ?_; (case ho => rfl); (case hg => rfl); (case hn => rfl); (case hr => first | (go_simp; done) | (go_simp; rfl)); intro wm5 hw; have hs_ := hput5 (.string s3) 3 (⟨s0, t0, wrap64 (t0 + 1), s3⟩ : S57) rfl (by decide) (k57_mkM _ _ _ (⟨s0, t0, wrap64 (t0 + 1), s3⟩ : S57) ge5_0); have hg : wm4.grownBy wm5 (some go) := (by rw [hw]; exact hs_.2); have n0_ := Aside0.mk (show Kd.S k57 57 wm5 w0.heap.size P0_ (.slice (some ⟨go, 0, none⟩) x0_1.length co) (x0_1.set (x5_1 : Int).toNat (⟨s0, t0, wrap64 (t0 + 1), s3⟩ : S57)) from (by rw [hw]; exact hs_.1)); have n2_ := Aside0.mk (show Below w0.heap.size w0 wm5 from (by rw [hw]; exact below_set (HB.out) GB.out)); have n1_ := Aside0.mk (Kept.of_grown (S := (fun k_ => P0_ k_)) hg (by repeat (first | (with_reducible first | exact HK.out | apply Kept.alloc | apply Kept.drewN | apply Kept.drew) | exact HK.out)) (fun k_ e_ => .inl ((Kd.S_R HO.out).1 k_ e_))); clear hg hw hs_; clear HO HK HB; have HO := n0_; have HK := n1_; have HB := n2_; clear n0_ n1_ n2_))
     go_roundg k1
     case measure => have := HK1.out; omega
     case rel => exact ⟨x0_1.set (x5_1 : Int).toNat (⟨s0, t0, wrap64 (t0 + 1), s3⟩ : S57), (wrap64 ((wrap64 ((wrap64 (t0 + 1)) + 1)) + 1)), wrap64 (x5_1 + 1), (by first | rfl | (simp; done) | (simp [*]; done)), (by first | rfl | (simp; done) | (simp [*]; done)), H', ⟨by have := HK1.out; omega⟩, ⟨(by (with_reducible repeat (first | apply Kd.S_alloc | apply Kd.S_drewN | apply Kd.S_drew)); exact HO.out)⟩, ⟨(by repeat (first | (with_reducible first | exact HK.out | apply Kept.alloc | apply Kept.drewN | apply Kept.drew) | exact HK.out))⟩, ⟨(by repeat (first | (with_reducible first | exact HB.out | apply below_alloc | apply pw_below_drewN | apply below_drew1) | exact HB.out))⟩⟩
    ·
     rw [if_neg c4] at H
     exact absurd H (by simp)
   ·
    rw [if_neg c3] at H
    have c3b0 : decide (x5_1 < (x0_1.length : Int)) = false := decide_eq_false c3
    simp only [Option.some.injEq, Prod.mk.injEq] at H
    obtain ⟨rfl, rfl⟩ := H
    obtain ⟨Ao, co, eo⟩ := Kd.S_slice HO.out
    subst eo
    go_wp2
    go_ret
    exact ⟨by first | rfl | (simp [*] <;> rfl), (by (with_reducible repeat (first | apply Kd.S_alloc | apply Kd.S_drewN | apply Kd.S_drew)); exact HO.out), (by repeat (first | (with_reducible first | exact HB.out | apply below_alloc | apply pw_below_drewN | apply below_drew1) | exact HB.out)), (by repeat (first | (with_reducible first | exact HK.out | apply Kept.alloc | apply Kept.drewN | apply Kept.drew) | exact HK.out))⟩

end Go.Proofs.Ytmmaondenopnpaa.Print
