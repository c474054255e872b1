-- Written by printx.py, a program of this session (wip/gen), over the kit's print.py.
import Derived.Test.YtmmaondenopnpaaF0
import Derived.Test.YtmmaondenopnpaaQMark
import Derived.Test.YtmmaondenopnpaaF66
namespace Go.Proofs.Ytmmaondenopnpaa.Print
open Go.RowKit Go.Proofs.YtmmaondenopnpaaV.PrintWords Go.Proofs.YtmmaondenopnpaaV.PrintLast Go.Proofs.YtmmaondenopnpaaV.PrintMore
attribute [local go_sem] max2_int min2_int max_two min_two max_three min_three max_four min_four   -- for this text's walks alone
set_option linter.unusedVariables false
set_option linter.unusedSimpArgs false

/-! ### laws_markPartS: function 45 -/
def laws_markPartS.l0 : Nat → List S105 → Int → Int → Option (Int × (List S105))
 | 0, _, _, _ => none
 | k + 1, x0, x1, x5 => if x5 < (x0.length : Int) then (if 0 ≤ x5 then ((laws_markChainS.f k (rd_T105 x0 x5).f2 (wrap64 ((wrap64 (x1 + 1)) + 1))).bind fun b2 => (laws_markPartS.l0 k (x0.set x5.toNat (⟨x1, wrap64 (x1 + 1), b2.2⟩ : S105)) b2.1 (wrap64 (x5 + 1)))) else (none)) else (some (x1, x0))
def laws_markPartS.f (k : Nat) (l0 : List S105) (a1 : Int) : Option (Int × (List S105)) := laws_markPartS.l0 k l0 a1 0
theorem laws_markPartS.mono_l : ∀ k, (∀ y0 y1 y2, LeO (laws_markPartS.l0 k y0 y1 y2) (laws_markPartS.l0 (k + 1) y0 y1 y2))
 | 0 => fun _ _ _ r h => by simp [laws_markPartS.l0] at h
 | k + 1 => by
  have ih0 := laws_markPartS.mono_l k
  ·
   intro y0 y1 y2
   unfold laws_markPartS.l0
   repeat' first
   | (with_reducible exact ih0 _ _ _)
   | (with_reducible exact laws_markChainS.mono _ _ _)
   | (with_reducible exact LeO.refl _)
   | (with_reducible exact LeO.none _)
   | (with_reducible refine LeO.ite ?_ ?_)
   | (with_reducible refine LeO.bind ?_ (fun _ => ?_))
   | exact ih0 _ _ _
   | exact laws_markChainS.mono _ _ _
   | exact LeO.none _
   | refine LeO.ite ?_ ?_
   | refine LeO.bind ?_ (fun _ => ?_)
theorem laws_markPartS.mono : ∀ a0 a1 k, LeO (laws_markPartS.f k a0 a1) (laws_markPartS.f (k + 1) a0 a1) := by
 intro a0 a1 k
 have ih0 := laws_markPartS.mono_l k
 unfold laws_markPartS.f
 repeat' first
   | (with_reducible exact ih0 _ _ _)
   | (with_reducible exact laws_markChainS.mono _ _ _)
   | (with_reducible exact LeO.refl _)
   | (with_reducible exact LeO.none _)
   | (with_reducible refine LeO.ite ?_ ?_)
   | (with_reducible refine LeO.bind ?_ (fun _ => ?_))
   | exact ih0 _ _ _
   | exact laws_markChainS.mono _ _ _
   | exact LeO.none _
   | refine LeO.ite ?_ ?_
   | refine LeO.bind ?_ (fun _ => ?_)
set_option maxHeartbeats 8000000 in
set_option maxRecDepth 100000 in
theorem laws_markPartS.calls (k : Nat) (P0_ : Nat → Prop) (u9000_ : Value) (l0 : List S105) (a1 : Int) (r1 : Int) (r2 : List S105) (w0 w : World) (hB : Below w0.heap.size w0 w) (ho0 : Kd.S k105 105 w w0.heap.size P0_ u9000_ l0) (h : laws_markPartS.f k l0 a1 = some (r1, r2)) :
  Calls Try.prog 45 #[u9000_, .int .i64 a1] w fun e w' => e = .returned (.int .i64 r1) ∧ Kd.S k105 105 w' w0.heap.size P0_ u9000_ r2 ∧ Below w0.heap.size w0 w' ∧ Kept w w' (fun k_ => P0_ k_) := by
 have HO := Aside0.mk ho0
 have HK := Aside0.mk (Kept.refl w (fun k_ => P0_ k_))
 have HB := Aside0.mk hB
 clear hB ho0
 have H' := Aside0.mk (show laws_markPartS.l0 k l0 a1 0 = some (r1, r2) from h)
 clear h
 go_enter Try.func45, Try.ntmps45
 go_wp2
 go_loopg [1, 5] k (fun kq v1 v5 w' => ∃ (x0_1 : List S105) (x1_1 : Int) (x5_1 : Int), v1 = .int .i64 x1_1 ∧ v5 = .int .i64 x5_1 ∧ Aside0 (laws_markPartS.l0 kq x0_1 x1_1 x5_1 = some (r1, r2)) ∧ Aside0 (kq ≤ k) ∧ Aside0 (Kd.S k105 105 w' w0.heap.size P0_ u9000_ x0_1) ∧ Aside0 (Kept w w' (fun k_ => P0_ k_)) ∧ Aside0 (Below w0.heap.size w0 w'))
 case atStart => exact ⟨l0, a1, 0, (by first | rfl | (simp; done) | (simp [*]; done)), (by first | rfl | (simp; done) | (simp [*]; done)), H', ⟨Nat.le_refl _⟩, ⟨(by (with_reducible repeat (first | apply Kd.S_alloc | apply Kd.S_drewN | apply Kd.S_drew)); exact HO.out)⟩, ⟨(by repeat (first | (with_reducible first | exact HK.out | apply Kept.alloc | apply Kept.drewN | apply Kept.drew) | exact HK.out))⟩, ⟨(by repeat (first | (with_reducible first | exact HB.out | apply below_alloc | apply pw_below_drewN | apply below_drew1) | exact HB.out))⟩⟩
 case round =>
  clear H'
  obtain ⟨x0_1, x1_1, x5_1, rfl, rfl, HA, HK1, HO, HK, HB⟩ := hrel
  cases gk with
  | zero => exact absurd HA.out (by simp [laws_markPartS.l0])
  | succ k1 =>
   have H := HA.out
   clear HA
   simp only [laws_markPartS.l0] at H
   by_cases c3 : x5_1 < (x0_1.length : Int)
   ·
    rw [if_pos c3] at H
    have c3b0 : decide (x5_1 < (x0_1.length : Int)) = true := decide_eq_true c3
    by_cases c4 : 0 ≤ x5_1
    ·
     rw [if_pos c4] at H
     have c4b0 : decide (0 ≤ x5_1) = true := decide_eq_true c4
     obtain ⟨⟨t2, s2⟩, A2_, H⟩ := Option.bind_eq_some_iff.mp H
     have A2 := Aside0.mk A2_; clear A2_; dsimp only at H A2
     have H' := Aside0.mk H
     clear H
     obtain ⟨Ao, co, eo⟩ := Kd.S_slice HO.out
     subst eo
     obtain ⟨go, co_, eo_, gb_, gl_, cl_, HG_⟩ := Kd.S_form HO.out (by omega)
     (first | cases eo_ | (injection eo_ with ea_ en_ ec_; (first | subst ea_ | (injection ea_ with ea_; subst ea_)); subst ec_; clear en_))
     have GB := Aside0.mk gb_
     clear gb_ gl_ HG_
     have p5 : (0 ≤ (x5_1 : Int)) = True := eq_true c4
     have q5 : ((x5_1 : Int) < (x0_1.length : Int)) = True := eq_true c3
     have HO1 := Aside0.mk (show Kd.S k105 105 wr w0.heap.size P0_ (.slice (some ⟨go, 0, none⟩) x0_1.length co) (x0_1.set (x5_1 : Int).toNat (rd_T105 x0_1 x5_1)) from S_begin HO.out z105 x5_1 c4 c3)
     clear HO
     have HO := HO1
     clear HO1
     obtain ⟨oki1, ce1, hM1, hcc1, hfr1, hoki1, hin1, hput1⟩ := S_hand HO.out c4 c3
     obtain ⟨ve1_2, rfl, ge1_2⟩ := k105_openM hM1
     have hx1_0 : wr.cell? ⟨go, (x5_1 : Int).toNat * 3, none⟩ = some (.int .i64 ((rd_T105 x0_1 x5_1).f0)) := hcc1 0 _ rfl
     have hf1_0 : wr.frozen? ⟨go, (x5_1 : Int).toNat * 3, none⟩ = false := hfr1 0
     have hx1_1 : wr.cell? ⟨go, (x5_1 : Int).toNat * 3 + 1, none⟩ = some (.int .i64 ((rd_T105 x0_1 x5_1).f1)) := hcc1 1 _ rfl
     have hf1_1 : wr.frozen? ⟨go, (x5_1 : Int).toNat * 3 + 1, none⟩ = false := hfr1 1
     have hx1_2 : wr.cell? ⟨go, (x5_1 : Int).toNat * 3 + 2, none⟩ = some (ve1_2) := hcc1 2 _ rfl
     have hf1_2 : wr.frozen? ⟨go, (x5_1 : Int).toNat * 3 + 2, none⟩ = false := hfr1 2
     clear hcc1 hfr1 hM1
     go_wp2_with (first | ((with_reducible refine gate_store (t := 3) (p := 16) rfl ?_); refine store_event (t := 3) (p := 16) (v := ?vo_wm1) (w1 := (wr.setCell ⟨go, (x5_1 : Int).toNat * 3, none⟩ (.int .i64 x1_1))) ?hg ?ho ?hn ?hr ?_; (case ho => rfl); (case hg => rfl); (case hn => rfl); (case hr => first | (go_simp; done) | (go_simp; rfl)); intro wm1 hw; have hs_ := hput1 (.int .i64 x1_1) 0 (⟨x1_1, ((rd_T105 x0_1 x5_1).f1), ((rd_T105 x0_1 x5_1).f2)⟩ : S105) rfl (by decide) (k105_mkM _ _ _ (⟨x1_1, ((rd_T105 x0_1 x5_1).f1), ((rd_T105 x0_1 x5_1).f2)⟩ : S105) ge1_2); have hg : wr.grownBy wm1 (some go) := (by rw [hw]; exact hs_.2); have n0_ := Aside0.mk (show Kd.S k105 105 wm1 w0.heap.size P0_ (.slice (some ⟨go, 0, none⟩) x0_1.length co) (x0_1.set (x5_1 : Int).toNat (⟨x1_1, ((rd_T105 x0_1 x5_1).f1), ((rd_T105 x0_1 x5_1).f2)⟩ : S105)) from (by rw [hw]; exact hs_.1)); have n2_ := Aside0.mk (show Below w0.heap.size w0 wm1 from (by rw [hw]; exact below_set (HB.out) GB.out)); have n1_ := Aside0.mk (Kept.of_grown (S := (fun k_ => P0_ k_)) hg (by repeat (first | (with_reducible first | exact HK.out | apply Kept.alloc | apply Kept.drewN | apply Kept.drew) | exact HK.out)) (fun k_ e_ => .inl ((Kd.S_R HO.out).1 k_ e_))); clear hg hw hs_; clear HO HK HB; have HO := n0_; have HK := n1_; have HB := n2_; clear n0_ n1_ n2_; obtain ⟨oki2, ce2, hM2, hcc2, hfr2, hoki2, hin2, hput2⟩ := S_hand HO.out c4 c3; obtain ⟨ve2_2, rfl, ge2_2⟩ := k105_openM hM2; have hx2_0 : wm1.cell? ⟨go, (x5_1 : Int).toNat * 3, none⟩ = some (.int .i64 x1_1) := hcc2 0 _ rfl; have hf2_0 : wm1.frozen? ⟨go, (x5_1 : Int).toNat * 3, none⟩ = false := hfr2 0; have hx2_1 : wm1.cell? ⟨go, (x5_1 : Int).toNat * 3 + 1, none⟩ = some (.int .i64 ((rd_T105 x0_1 x5_1).f1)) := hcc2 1 _ rfl; have hf2_1 : wm1.frozen? ⟨go, (x5_1 : Int).toNat * 3 + 1, none⟩ = false := hfr2 1; have hx2_2 : wm1.cell? ⟨go, (x5_1 : Int).toNat * 3 + 2, none⟩ = some (ve2_2) := hcc2 2 _ rfl; have hf2_2 : wm1.frozen? ⟨go, (x5_1 : Int).toNat * 3 + 2, none⟩ = false := hfr2 2; clear hcc2 hfr2 hM2) | ((with_reducible refine gate_store (t := 3) (p := 23) rfl ?_); refine store_event (t := 3) (p := 23) (v := ?vo_wm2) (w1 := (wm1.setCell ⟨go, (x5_1 : Int).toNat * 3 + 1, none⟩ (.int .i64 (wrap64 (x1_1 + 1))))) ?hg ?ho ?hn ?hr ?_; (case ho => rfl); (case hg => rfl); (case hn => rfl); (case hr => first | (go_simp; done) | (go_simp; rfl)); intro wm2 hw; have hs_ := hput2 (.int .i64 (wrap64 (x1_1 + 1))) 1 (⟨x1_1, wrap64 (x1_1 + 1), ((rd_T105 x0_1 x5_1).f2)⟩ : S105) rfl (by decide) (k105_mkM _ _ _ (⟨x1_1, wrap64 (x1_1 + 1), ((rd_T105 x0_1 x5_1).f2)⟩ : S105) ge2_2); have hg : wm1.grownBy wm2 (some go) := (by rw [hw]; exact hs_.2); have n0_ := Aside0.mk (show Kd.S k105 105 wm2 w0.heap.size P0_ (.slice (some ⟨go, 0, none⟩) x0_1.length co) (x0_1.set (x5_1 : Int).toNat (⟨x1_1, wrap64 (x1_1 + 1), ((rd_T105 x0_1 x5_1).f2)⟩ : S105)) from (by rw [hw]; exact hs_.1)); have n2_ := Aside0.mk (show Below w0.heap.size w0 wm2 from (by rw [hw]; exact below_set (HB.out) GB.out)); have n1_ := Aside0.mk (Kept.of_grown (S := (fun k_ => P0_ k_)) hg (by repeat (first | (with_reducible first | exact HK.out | apply Kept.alloc | apply Kept.drewN | apply Kept.drew) | exact HK.out)) (fun k_ e_ => .inl ((Kd.S_R HO.out).1 k_ e_))); clear hg hw hs_; clear HO HK HB; have HO := n0_; have HK := n1_; have HB := n2_; clear n0_ n1_ n2_; obtain ⟨oki3, ce3, hM3, hcc3, hfr3, hoki3, hin3, hput3⟩ := S_hand HO.out c4 c3; obtain ⟨ve3_2, rfl, ge3_2⟩ := k105_openM hM3; have hx3_0 : wm2.cell? ⟨go, (x5_1 : Int).toNat * 3, none⟩ = some (.int .i64 x1_1) := hcc3 0 _ rfl; have hf3_0 : wm2.frozen? ⟨go, (x5_1 : Int).toNat * 3, none⟩ = false := hfr3 0; have hx3_1 : wm2.cell? ⟨go, (x5_1 : Int).toNat * 3 + 1, none⟩ = some (.int .i64 (wrap64 (x1_1 + 1))) := hcc3 1 _ rfl; have hf3_1 : wm2.frozen? ⟨go, (x5_1 : Int).toNat * 3 + 1, none⟩ = false := hfr3 1; have hx3_2 : wm2.cell? ⟨go, (x5_1 : Int).toNat * 3 + 2, none⟩ = some (ve3_2) := hcc3 2 _ rfl; have hf3_2 : wm2.frozen? ⟨go, (x5_1 : Int).toNat * 3 + 2, none⟩ = false := hfr3 2; clear hcc3 hfr3 hM3) | ((with_reducible refine gate_callee (f := 78) rfl ?_); refine goesL_ (some 32) rfl rfl Try.func78 (by kernel_rfl) rfl #[ve3_2, .int .i64 (wrap64 ((wrap64 (x1_1 + 1)) + 1))] rfl (by (try simp only [List.map_toArray, List.map_cons, List.map_nil]); first | done | rfl | (simp only [List.length_drop, List.length_take]; rfl)) ?_; (with_reducible refine (laws_markChainS.calls k1 oki3 ve3_2 ((rd_T105 x0_1 x5_1).f2) (wrap64 ((wrap64 (x1_1 + 1)) + 1)) t2 s2 w0 _ (by repeat (first | (with_reducible first | exact HB.out | apply below_alloc | apply pw_below_drewN | apply below_drew1) | exact HB.out)) ge3_2 A2.out).mono ?_); rintro e wm3 ⟨rfl, hy, hb, hkp⟩; refine ⟨_, rfl, ?_⟩; have n0_ := Aside0.mk (hin3 wm3 (⟨x1_1, wrap64 (x1_1 + 1), s2⟩ : S105) hkp (k105_mkM _ _ _ (⟨x1_1, wrap64 (x1_1 + 1), s2⟩ : S105) hy)); have n1_ := Aside0.mk (Kept.then_ (S := (fun k_ => P0_ k_)) (by repeat (first | (with_reducible first | exact HK.out | apply Kept.alloc | apply Kept.drewN | apply Kept.drew) | exact HK.out)) hkp (fun k_ h_ => .inl (hoki3 k_ h_).1)); have n2_ := Aside0.mk hb; clear HO HK HB; have HO := n0_; have HK := n1_; have HB := n2_; clear n0_ n1_ n2_))
     go_roundg k1
     case measure => have := HK1.out; omega
     case rel => exact ⟨x0_1.set (x5_1 : Int).toNat (⟨x1_1, wrap64 (x1_1 + 1), s2⟩ : S105), t2, wrap64 (x5_1 + 1), (by first | rfl | (simp; done) | (simp [*]; done)), (by first | rfl | (simp; done) | (simp [*]; done)), H', ⟨by have := HK1.out; omega⟩, ⟨(by (with_reducible repeat (first | apply Kd.S_alloc | apply Kd.S_drewN | apply Kd.S_drew)); exact HO.out)⟩, ⟨(by repeat (first | (with_reducible first | exact HK.out | apply Kept.alloc | apply Kept.drewN | apply Kept.drew) | exact HK.out))⟩, ⟨(by repeat (first | (with_reducible first | exact HB.out | apply below_alloc | apply pw_below_drewN | apply below_drew1) | exact HB.out))⟩⟩
    ·
     rw [if_neg c4] at H
     exact absurd H (by simp)
   ·
    rw [if_neg c3] at H
    have c3b0 : decide (x5_1 < (x0_1.length : Int)) = false := decide_eq_false c3
    simp only [Option.some.injEq, Prod.mk.injEq] at H
    obtain ⟨rfl, rfl⟩ := H
    obtain ⟨Ao, co, eo⟩ := Kd.S_slice HO.out
    subst eo
    go_wp2
    go_ret
    exact ⟨by first | rfl | (simp [*] <;> rfl), (by (with_reducible repeat (first | apply Kd.S_alloc | apply Kd.S_drewN | apply Kd.S_drew)); exact HO.out), (by repeat (first | (with_reducible first | exact HB.out | apply below_alloc | apply pw_below_drewN | apply below_drew1) | exact HB.out)), (by repeat (first | (with_reducible first | exact HK.out | apply Kept.alloc | apply Kept.drewN | apply Kept.drew) | exact HK.out))⟩

end Go.Proofs.Ytmmaondenopnpaa.Print
