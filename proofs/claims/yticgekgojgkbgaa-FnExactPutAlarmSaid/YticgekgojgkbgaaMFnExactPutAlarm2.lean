import Derived.Test.YticgekgojgkbgaaMFnExactPutAlarm1
import Derived.Laws.Cover1
section
namespace Go.Proofs.Yticgekgojgkbgaa.Print
open Go.RowKit Go.Proofs.YticgekgojgkbgaaV.PrintWords Go.Proofs.YticgekgojgkbgaaV.PrintLast Go.Proofs.YticgekgojgkbgaaV.PrintMore
attribute [local go_sem] max2_int min2_int max_two min_two max_three min_three max_four min_four
set_option linter.unusedVariables false
set_option linter.unusedSimpArgs false
set_option maxHeartbeats 8000000
set_option maxRecDepth 100000
def laws_markChainS.l0 : Nat → List S100 → Int → Int → Option (Int × (List S100))
 | 0, _, _, _ => none
 | k + 1, x0, x1, x5 => if x5 < (x0.length : Int) then (if 0 ≤ x5 then ((laws_markAlarmS.f k (rd_T100 x0 x5).f1 (wrap64 (x1 + 1))).bind fun b1 => (laws_markChainS.l0 k (x0.set x5.toNat (⟨x1, b1.2⟩ : S100)) b1.1 (wrap64 (x5 + 1)))) else (none)) else (some (x1, x0))
def laws_markChainS.f (k : Nat) (l0 : List S100) (a1 : Int) : Option (Int × (List S100)) := laws_markChainS.l0 k l0 a1 0
theorem laws_markChainS.mono_l : ∀ k, (∀ y0 y1 y2, LeO (laws_markChainS.l0 k y0 y1 y2) (laws_markChainS.l0 (k + 1) y0 y1 y2))
 | 0 => fun _ _ _ r h => by simp [laws_markChainS.l0] at h
 | k + 1 => by
  have ih0 := laws_markChainS.mono_l k
  intro y0 y1 y2
  unfold laws_markChainS.l0
  repeat' first
  | (with_reducible exact ih0 _ _ _)
  | (with_reducible exact laws_markAlarmS.mono _ _ _)
  | (with_reducible exact LeO.refl _)
  | (with_reducible exact LeO.none _)
  | (with_reducible refine LeO.ite ?_ ?_)
  | (with_reducible refine LeO.bind ?_ (fun _ => ?_))
  | exact ih0 _ _ _
  | exact laws_markAlarmS.mono _ _ _
theorem laws_markChainS.mono : ∀ a0 a1 k, LeO (laws_markChainS.f k a0 a1) (laws_markChainS.f (k + 1) a0 a1) := by
 intro a0 a1 k
 have ih0 := laws_markChainS.mono_l k
 unfold laws_markChainS.f
 repeat' first | (with_reducible first | exact ih0 _ _ _ | exact laws_markAlarmS.mono _ _ _ | exact LeO.refl _ | exact LeO.none _ | refine LeO.ite ?_ ?_ | refine LeO.bind ?_ (fun _ => ?_)) | exact ih0 _ _ _ | exact laws_markAlarmS.mono _ _ _
theorem laws_markChainS.calls (k : Nat) (P0_ : Nat → Prop) (u9000_ : Value) (l0 : List S100) (a1 : Int) (r1 : Int) (r2 : List S100) (w0 w : World) (hB : Below w0.heap.size w0 w) (ho0 : Kd.S k100 100 w w0.heap.size P0_ u9000_ l0) (h : laws_markChainS.f k l0 a1 = some (r1, r2)) :
  Calls Try.prog 81 #[u9000_, .int .i64 a1] w fun e w' => e = .returned (.int .i64 r1) ∧ Kd.S k100 100 w' w0.heap.size P0_ u9000_ r2 ∧ Below w0.heap.size w0 w' ∧ Kept w w' (fun k_ => P0_ k_) := by
 have HO := Aside0.mk ho0
 have HK := Aside0.mk (Kept.refl w (fun k_ => P0_ k_))
 have HB := Aside0.mk hB
 clear hB ho0
 have H' := Aside0.mk (show laws_markChainS.l0 k l0 a1 0 = some (r1, r2) from h)
 clear h
 go_enter Try.func81, Try.ntmps81
 go_wp2
 go_loopg [1, 5] k (fun kq v1 v5 w' => ∃ (x0_1 : List S100) (x1_1 : Int) (x5_1 : Int), v1 = .int .i64 x1_1 ∧ v5 = .int .i64 x5_1 ∧ Aside0 (laws_markChainS.l0 kq x0_1 x1_1 x5_1 = some (r1, r2)) ∧ Aside0 (kq ≤ k) ∧ Aside0 (Kd.S k100 100 w' w0.heap.size P0_ u9000_ x0_1) ∧ Aside0 (Kept w w' (fun k_ => P0_ k_)) ∧ Aside0 (Below w0.heap.size w0 w'))
 case atStart => exact ⟨l0, a1, 0, (by first | rfl | (simp; done) | (simp [*]; done)), (by first | rfl | (simp; done) | (simp [*]; done)), H', ⟨Nat.le_refl _⟩, ⟨(sp_ HO.out)⟩, ⟨(by repeat (first | (with_reducible first | exact HK.out | apply Kept.alloc | apply Kept.drewN | apply Kept.drew) | exact HK.out))⟩, ⟨(hs_ HB.out)⟩⟩
 case round =>
  clear H'
  obtain ⟨x0_1, x1_1, x5_1, rfl, rfl, HA, HK1, HO, HK, HB⟩ := hrel
  cases gk with
  | zero => exact absurd HA.out (by simp [laws_markChainS.l0])
  | succ k1 =>
   have H := HA.out
   clear HA
   simp only [laws_markChainS.l0] at H
   by_cases c3 : x5_1 < (x0_1.length : Int)
   ·
    rw [if_pos c3] at H
    have c3b0 := decide_eq_true c3
    by_cases c4 : 0 ≤ x5_1
    ·
     rw [if_pos c4] at H
     have c4b0 := decide_eq_true c4
     obtain ⟨⟨t1, s1⟩, A1_, H⟩ := Option.bind_eq_some_iff.mp H
     have A1 := Aside0.mk A1_; clear A1_; dsimp only at H A1
     have H' := Aside0.mk H
     clear H
     obtain ⟨Ao, co, eo⟩ := Kd.S_slice HO.out
     subst eo
     obtain ⟨go, co_, eo_, gb_, gl_, cl_, HG_⟩ := Kd.S_form HO.out (by omega)
     (first | cases eo_ | (injection eo_ with ea_ en_ ec_; (first | subst ea_ | (injection ea_ with ea_; subst ea_)); subst ec_; clear en_))
     have GB := Aside0.mk gb_
     clear gb_ gl_ HG_
     have p5 : (0 ≤ (x5_1 : Int)) = True := eq_true c4
     have q5 : ((x5_1 : Int) < (x0_1.length : Int)) = True := eq_true c3
     have HO1 := Aside0.mk (show Kd.S k100 100 wr w0.heap.size P0_ (.slice (some ⟨go, 0, none⟩) x0_1.length co) (x0_1.set (x5_1 : Int).toNat (rd_T100 x0_1 x5_1)) from S_begin HO.out z100 x5_1 c4 c3)
     clear HO
     have HO := HO1
     clear HO1
     obtain ⟨oki1, ce1, hM1, hcc1, hfr1, hoki1, hin1, hput1⟩ := S_hand HO.out c4 c3
     obtain ⟨ve1_1, rfl, ge1_1⟩ := k100_openM hM1
     have hx1_0 : wr.cell? ⟨go, (x5_1 : Int).toNat * 2, none⟩ = some (.int .i64 ((rd_T100 x0_1 x5_1).f0)) := hcc1 0 _ rfl
     have hf1_0 : wr.frozen? ⟨go, (x5_1 : Int).toNat * 2, none⟩ = false := hfr1 0
     have hx1_1 : wr.cell? ⟨go, (x5_1 : Int).toNat * 2 + 1, none⟩ = some (ve1_1) := hcc1 1 _ rfl
     have hf1_1 : wr.frozen? ⟨go, (x5_1 : Int).toNat * 2 + 1, none⟩ = false := hfr1 1
     clear hcc1 hfr1 hM1
     go_wp2_with (first | ((with_reducible refine gate_store (t := 3) (p := 16) rfl ?_); refine store_event (t := 3) (p := 16) (v := ?vo_wm1) (w1 := (wr.setCell ⟨go, (x5_1 : Int).toNat * 2, none⟩ (.int .i64 x1_1))) ?hg ?ho ?hn ?hr ?_; (case ho => rfl); (case hg => rfl); (case hn => rfl); (case hr => first | (go_simp; done) | (go_simp; rfl)); intro wm1 hw; have hs_ := hput1 (.int .i64 x1_1) 0 (⟨x1_1, ((rd_T100 x0_1 x5_1).f1)⟩ : S100) rfl (by decide) (k100_mkM _ _ _ (⟨x1_1, ((rd_T100 x0_1 x5_1).f1)⟩ : S100) ge1_1); have hg : wr.grownBy wm1 (some go) := (by rw [hw]; exact hs_.2); replace HB := Aside0.mk (show Below w0.heap.size w0 wm1 from (by rw [hw]; exact below_set (HB.out) GB.out)); replace HK := Aside0.mk (Kept.of_grown (S := (fun k_ => P0_ k_)) hg (by repeat (first | (with_reducible first | exact HK.out | apply Kept.alloc | apply Kept.drewN | apply Kept.drew) | exact HK.out)) (fun k_ e_ => .inl ((Kd.S_R HO.out).1 k_ e_))); replace HO := Aside0.mk (show Kd.S k100 100 wm1 w0.heap.size P0_ (.slice (some ⟨go, 0, none⟩) x0_1.length co) (x0_1.set (x5_1 : Int).toNat (⟨x1_1, ((rd_T100 x0_1 x5_1).f1)⟩ : S100)) from (by rw [hw]; exact hs_.1)); clear hg hw hs_; obtain ⟨oki2, ce2, hM2, hcc2, hfr2, hoki2, hin2, hput2⟩ := S_hand HO.out c4 c3; obtain ⟨ve2_1, rfl, ge2_1⟩ := k100_openM hM2; have hx2_0 : wm1.cell? ⟨go, (x5_1 : Int).toNat * 2, none⟩ = some (.int .i64 x1_1) := hcc2 0 _ rfl; have hf2_0 : wm1.frozen? ⟨go, (x5_1 : Int).toNat * 2, none⟩ = false := hfr2 0; have hx2_1 : wm1.cell? ⟨go, (x5_1 : Int).toNat * 2 + 1, none⟩ = some (ve2_1) := hcc2 1 _ rfl; have hf2_1 : wm1.frozen? ⟨go, (x5_1 : Int).toNat * 2 + 1, none⟩ = false := hfr2 1; clear hcc2 hfr2 hM2) | ((with_reducible refine gate_callee (f := 53) rfl ?_); refine gl_ (some 25) Try.func53 #[ve2_1, .int .i64 (wrap64 (x1_1 + 1))] ?_; (with_reducible refine (laws_markAlarmS.calls k1 oki2 ve2_1 ((rd_T100 x0_1 x5_1).f1) (wrap64 (x1_1 + 1)) t1 s1 w0 _ (hs_ HB.out) ge2_1 A1.out).mono ?_); rintro e wm2 ⟨rfl, hy, hb, hkp⟩; refine ⟨_, rfl, ?_⟩; replace HO := Aside0.mk (hin2 wm2 (⟨x1_1, s1⟩ : S100) hkp (k100_mkM _ _ _ (⟨x1_1, s1⟩ : S100) hy)); replace HK := Aside0.mk (Kept.then_ (S := (fun k_ => P0_ k_)) (by repeat (first | (with_reducible first | exact HK.out | apply Kept.alloc | apply Kept.drewN | apply Kept.drew) | exact HK.out)) hkp (fun k_ h_ => .inl (hoki2 k_ h_).1)); replace HB := Aside0.mk hb))
     go_roundg k1
     case measure => have := HK1.out; omega
     case rel => exact ⟨x0_1.set (x5_1 : Int).toNat (⟨x1_1, s1⟩ : S100), t1, wrap64 (x5_1 + 1), (by first | rfl | (simp; done) | (simp [*]; done)), (by first | rfl | (simp; done) | (simp [*]; done)), H', ⟨by have := HK1.out; omega⟩, ⟨(sp_ HO.out)⟩, ⟨(by repeat (first | (with_reducible first | exact HK.out | apply Kept.alloc | apply Kept.drewN | apply Kept.drew) | exact HK.out))⟩, ⟨(hs_ HB.out)⟩⟩
    rw [if_neg c4] at H
    exact absurd H (by simp)
   rw [if_neg c3] at H
   have c3b0 : decide (x5_1 < (x0_1.length : Int)) = false := decide_eq_false c3
   simp only [Option.some.injEq, Prod.mk.injEq] at H
   obtain ⟨rfl, rfl⟩ := H
   obtain ⟨Ao, co, eo⟩ := Kd.S_slice HO.out
   subst eo
   go_wp2
   go_ret
   exact ⟨by first | rfl | (simp [*] <;> rfl), (sp_ HO.out), (hs_ HB.out), (by repeat (first | (with_reducible first | exact HK.out | apply Kept.alloc | apply Kept.drewN | apply Kept.drew) | exact HK.out))⟩
def laws_markPartS.l0 : Nat → List S57 → Int → Int → Option (Int × (List S57))
 | 0, _, _, _ => none
 | k + 1, x0, x1, x5 => if x5 < (x0.length : Int) then (if 0 ≤ x5 then ((laws_markChainS.f k (rd_T57 x0 x5).f2 (wrap64 ((wrap64 (x1 + 1)) + 1))).bind fun b2 => (laws_markPartS.l0 k (x0.set x5.toNat (⟨x1, wrap64 (x1 + 1), b2.2⟩ : S57)) b2.1 (wrap64 (x5 + 1)))) else (none)) else (some (x1, x0))
def laws_markPartS.f (k : Nat) (l0 : List S57) (a1 : Int) : Option (Int × (List S57)) := laws_markPartS.l0 k l0 a1 0
theorem laws_markPartS.mono_l : ∀ k, (∀ y0 y1 y2, LeO (laws_markPartS.l0 k y0 y1 y2) (laws_markPartS.l0 (k + 1) y0 y1 y2))
 | 0 => fun _ _ _ r h => by simp [laws_markPartS.l0] at h
 | k + 1 => by
  have ih0 := laws_markPartS.mono_l k
  intro y0 y1 y2
  unfold laws_markPartS.l0
  repeat' first
  | (with_reducible exact ih0 _ _ _)
  | (with_reducible exact laws_markChainS.mono _ _ _)
  | (with_reducible exact LeO.refl _)
  | (with_reducible exact LeO.none _)
  | (with_reducible refine LeO.ite ?_ ?_)
  | (with_reducible refine LeO.bind ?_ (fun _ => ?_))
  | exact ih0 _ _ _
  | exact laws_markChainS.mono _ _ _
theorem laws_markPartS.mono : ∀ a0 a1 k, LeO (laws_markPartS.f k a0 a1) (laws_markPartS.f (k + 1) a0 a1) := by
 intro a0 a1 k
 have ih0 := laws_markPartS.mono_l k
 unfold laws_markPartS.f
 repeat' first | (with_reducible first | exact ih0 _ _ _ | exact laws_markChainS.mono _ _ _ | exact LeO.refl _ | exact LeO.none _ | refine LeO.ite ?_ ?_ | refine LeO.bind ?_ (fun _ => ?_)) | exact ih0 _ _ _ | exact laws_markChainS.mono _ _ _
theorem laws_markPartS.calls (k : Nat) (P0_ : Nat → Prop) (u9000_ : Value) (l0 : List S57) (a1 : Int) (r1 : Int) (r2 : List S57) (w0 w : World) (hB : Below w0.heap.size w0 w) (ho0 : Kd.S k57 57 w w0.heap.size P0_ u9000_ l0) (h : laws_markPartS.f k l0 a1 = some (r1, r2)) :
  Calls Try.prog 41 #[u9000_, .int .i64 a1] w fun e w' => e = .returned (.int .i64 r1) ∧ Kd.S k57 57 w' w0.heap.size P0_ u9000_ r2 ∧ Below w0.heap.size w0 w' ∧ Kept w w' (fun k_ => P0_ k_) := by
 have HO := Aside0.mk ho0
 have HK := Aside0.mk (Kept.refl w (fun k_ => P0_ k_))
 have HB := Aside0.mk hB
 clear hB ho0
 have H' := Aside0.mk (show laws_markPartS.l0 k l0 a1 0 = some (r1, r2) from h)
 clear h
 go_enter Try.func41, Try.ntmps41
 go_wp2
 go_loopg [1, 5] k (fun kq v1 v5 w' => ∃ (x0_1 : List S57) (x1_1 : Int) (x5_1 : Int), v1 = .int .i64 x1_1 ∧ v5 = .int .i64 x5_1 ∧ Aside0 (laws_markPartS.l0 kq x0_1 x1_1 x5_1 = some (r1, r2)) ∧ Aside0 (kq ≤ k) ∧ Aside0 (Kd.S k57 57 w' w0.heap.size P0_ u9000_ x0_1) ∧ Aside0 (Kept w w' (fun k_ => P0_ k_)) ∧ Aside0 (Below w0.heap.size w0 w'))
 case atStart => exact ⟨l0, a1, 0, (by first | rfl | (simp; done) | (simp [*]; done)), (by first | rfl | (simp; done) | (simp [*]; done)), H', ⟨Nat.le_refl _⟩, ⟨(sp_ HO.out)⟩, ⟨(by repeat (first | (with_reducible first | exact HK.out | apply Kept.alloc | apply Kept.drewN | apply Kept.drew) | exact HK.out))⟩, ⟨(hs_ HB.out)⟩⟩
 case round =>
  clear H'
  obtain ⟨x0_1, x1_1, x5_1, rfl, rfl, HA, HK1, HO, HK, HB⟩ := hrel
  cases gk with
  | zero => exact absurd HA.out (by simp [laws_markPartS.l0])
  | succ k1 =>
   have H := HA.out
   clear HA
   simp only [laws_markPartS.l0] at H
   by_cases c3 : x5_1 < (x0_1.length : Int)
   ·
    rw [if_pos c3] at H
    have c3b0 := decide_eq_true c3
    by_cases c4 : 0 ≤ x5_1
    ·
     rw [if_pos c4] at H
     have c4b0 := decide_eq_true c4
     obtain ⟨⟨t2, s2⟩, A2_, H⟩ := Option.bind_eq_some_iff.mp H
     have A2 := Aside0.mk A2_; clear A2_; dsimp only at H A2
     have H' := Aside0.mk H
     clear H
     obtain ⟨Ao, co, eo⟩ := Kd.S_slice HO.out
     subst eo
     obtain ⟨go, co_, eo_, gb_, gl_, cl_, HG_⟩ := Kd.S_form HO.out (by omega)
     (first | cases eo_ | (injection eo_ with ea_ en_ ec_; (first | subst ea_ | (injection ea_ with ea_; subst ea_)); subst ec_; clear en_))
     have GB := Aside0.mk gb_
     clear gb_ gl_ HG_
     have p5 : (0 ≤ (x5_1 : Int)) = True := eq_true c4
     have q5 : ((x5_1 : Int) < (x0_1.length : Int)) = True := eq_true c3
     have HO1 := Aside0.mk (show Kd.S k57 57 wr w0.heap.size P0_ (.slice (some ⟨go, 0, none⟩) x0_1.length co) (x0_1.set (x5_1 : Int).toNat (rd_T57 x0_1 x5_1)) from S_begin HO.out z57 x5_1 c4 c3)
     clear HO
     have HO := HO1
     clear HO1
     obtain ⟨oki1, ce1, hM1, hcc1, hfr1, hoki1, hin1, hput1⟩ := S_hand HO.out c4 c3
     obtain ⟨ve1_2, rfl, ge1_2⟩ := k57_openM hM1
     have hx1_0 : wr.cell? ⟨go, (x5_1 : Int).toNat * 3, none⟩ = some (.int .i64 ((rd_T57 x0_1 x5_1).f0)) := hcc1 0 _ rfl
     have hf1_0 : wr.frozen? ⟨go, (x5_1 : Int).toNat * 3, none⟩ = false := hfr1 0
     have hx1_1 : wr.cell? ⟨go, (x5_1 : Int).toNat * 3 + 1, none⟩ = some (.int .i64 ((rd_T57 x0_1 x5_1).f1)) := hcc1 1 _ rfl
     have hf1_1 : wr.frozen? ⟨go, (x5_1 : Int).toNat * 3 + 1, none⟩ = false := hfr1 1
     have hx1_2 : wr.cell? ⟨go, (x5_1 : Int).toNat * 3 + 2, none⟩ = some (ve1_2) := hcc1 2 _ rfl
     have hf1_2 : wr.frozen? ⟨go, (x5_1 : Int).toNat * 3 + 2, none⟩ = false := hfr1 2
     clear hcc1 hfr1 hM1
     go_wp2_with (first | ((with_reducible refine gate_store (t := 3) (p := 16) rfl ?_); refine store_event (t := 3) (p := 16) (v := ?vo_wm1) (w1 := (wr.setCell ⟨go, (x5_1 : Int).toNat * 3, none⟩ (.int .i64 x1_1))) ?hg ?ho ?hn ?hr ?_; (case ho => rfl); (case hg => rfl); (case hn => rfl); (case hr => first | (go_simp; done) | (go_simp; rfl)); intro wm1 hw; have hs_ := hput1 (.int .i64 x1_1) 0 (⟨x1_1, ((rd_T57 x0_1 x5_1).f1), ((rd_T57 x0_1 x5_1).f2)⟩ : S57) rfl (by decide) (k57_mkM _ _ _ (⟨x1_1, ((rd_T57 x0_1 x5_1).f1), ((rd_T57 x0_1 x5_1).f2)⟩ : S57) ge1_2); have hg : wr.grownBy wm1 (some go) := (by rw [hw]; exact hs_.2); replace HB := Aside0.mk (show Below w0.heap.size w0 wm1 from (by rw [hw]; exact below_set (HB.out) GB.out)); replace HK := Aside0.mk (Kept.of_grown (S := (fun k_ => P0_ k_)) hg (by repeat (first | (with_reducible first | exact HK.out | apply Kept.alloc | apply Kept.drewN | apply Kept.drew) | exact HK.out)) (fun k_ e_ => .inl ((Kd.S_R HO.out).1 k_ e_))); replace HO := Aside0.mk (show Kd.S k57 57 wm1 w0.heap.size P0_ (.slice (some ⟨go, 0, none⟩) x0_1.length co) (x0_1.set (x5_1 : Int).toNat (⟨x1_1, ((rd_T57 x0_1 x5_1).f1), ((rd_T57 x0_1 x5_1).f2)⟩ : S57)) from (by rw [hw]; exact hs_.1)); clear hg hw hs_; obtain ⟨oki2, ce2, hM2, hcc2, hfr2, hoki2, hin2, hput2⟩ := S_hand HO.out c4 c3; obtain ⟨ve2_2, rfl, ge2_2⟩ := k57_openM hM2; have hx2_0 : wm1.cell? ⟨go, (x5_1 : Int).toNat * 3, none⟩ = some (.int .i64 x1_1) := hcc2 0 _ rfl; have hf2_0 : wm1.frozen? ⟨go, (x5_1 : Int).toNat * 3, none⟩ = false := hfr2 0; have hx2_1 : wm1.cell? ⟨go, (x5_1 : Int).toNat * 3 + 1, none⟩ = some (.int .i64 ((rd_T57 x0_1 x5_1).f1)) := hcc2 1 _ rfl; have hf2_1 : wm1.frozen? ⟨go, (x5_1 : Int).toNat * 3 + 1, none⟩ = false := hfr2 1; have hx2_2 : wm1.cell? ⟨go, (x5_1 : Int).toNat * 3 + 2, none⟩ = some (ve2_2) := hcc2 2 _ rfl; have hf2_2 : wm1.frozen? ⟨go, (x5_1 : Int).toNat * 3 + 2, none⟩ = false := hfr2 2; clear hcc2 hfr2 hM2) | ((with_reducible refine gate_store (t := 3) (p := 23) rfl ?_); refine store_event (t := 3) (p := 23) (v := ?vo_wm2) (w1 := (wm1.setCell ⟨go, (x5_1 : Int).toNat * 3 + 1, none⟩ (.int .i64 (wrap64 (x1_1 + 1))))) ?hg ?ho ?hn ?hr ?_; (case ho => rfl); (case hg => rfl); (case hn => rfl); (case hr => first | (go_simp; done) | (go_simp; rfl)); intro wm2 hw; have hs_ := hput2 (.int .i64 (wrap64 (x1_1 + 1))) 1 (⟨x1_1, wrap64 (x1_1 + 1), ((rd_T57 x0_1 x5_1).f2)⟩ : S57) rfl (by decide) (k57_mkM _ _ _ (⟨x1_1, wrap64 (x1_1 + 1), ((rd_T57 x0_1 x5_1).f2)⟩ : S57) ge2_2); have hg : wm1.grownBy wm2 (some go) := (by rw [hw]; exact hs_.2); replace HB := Aside0.mk (show Below w0.heap.size w0 wm2 from (by rw [hw]; exact below_set (HB.out) GB.out)); replace HK := Aside0.mk (Kept.of_grown (S := (fun k_ => P0_ k_)) hg (by repeat (first | (with_reducible first | exact HK.out | apply Kept.alloc | apply Kept.drewN | apply Kept.drew) | exact HK.out)) (fun k_ e_ => .inl ((Kd.S_R HO.out).1 k_ e_))); replace HO := Aside0.mk (show Kd.S k57 57 wm2 w0.heap.size P0_ (.slice (some ⟨go, 0, none⟩) x0_1.length co) (x0_1.set (x5_1 : Int).toNat (⟨x1_1, wrap64 (x1_1 + 1), ((rd_T57 x0_1 x5_1).f2)⟩ : S57)) from (by rw [hw]; exact hs_.1)); clear hg hw hs_; obtain ⟨oki3, ce3, hM3, hcc3, hfr3, hoki3, hin3, hput3⟩ := S_hand HO.out c4 c3; obtain ⟨ve3_2, rfl, ge3_2⟩ := k57_openM hM3; have hx3_0 : wm2.cell? ⟨go, (x5_1 : Int).toNat * 3, none⟩ = some (.int .i64 x1_1) := hcc3 0 _ rfl; have hf3_0 : wm2.frozen? ⟨go, (x5_1 : Int).toNat * 3, none⟩ = false := hfr3 0; have hx3_1 : wm2.cell? ⟨go, (x5_1 : Int).toNat * 3 + 1, none⟩ = some (.int .i64 (wrap64 (x1_1 + 1))) := hcc3 1 _ rfl; have hf3_1 : wm2.frozen? ⟨go, (x5_1 : Int).toNat * 3 + 1, none⟩ = false := hfr3 1; have hx3_2 : wm2.cell? ⟨go, (x5_1 : Int).toNat * 3 + 2, none⟩ = some (ve3_2) := hcc3 2 _ rfl; have hf3_2 : wm2.frozen? ⟨go, (x5_1 : Int).toNat * 3 + 2, none⟩ = false := hfr3 2; clear hcc3 hfr3 hM3) | ((with_reducible refine gate_callee (f := 81) rfl ?_); refine gl_ (some 32) Try.func81 #[ve3_2, .int .i64 (wrap64 ((wrap64 (x1_1 + 1)) + 1))] ?_; (with_reducible refine (laws_markChainS.calls k1 oki3 ve3_2 ((rd_T57 x0_1 x5_1).f2) (wrap64 ((wrap64 (x1_1 + 1)) + 1)) t2 s2 w0 _ (hs_ HB.out) ge3_2 A2.out).mono ?_); rintro e wm3 ⟨rfl, hy, hb, hkp⟩; refine ⟨_, rfl, ?_⟩; replace HO := Aside0.mk (hin3 wm3 (⟨x1_1, wrap64 (x1_1 + 1), s2⟩ : S57) hkp (k57_mkM _ _ _ (⟨x1_1, wrap64 (x1_1 + 1), s2⟩ : S57) hy)); replace HK := Aside0.mk (Kept.then_ (S := (fun k_ => P0_ k_)) (by repeat (first | (with_reducible first | exact HK.out | apply Kept.alloc | apply Kept.drewN | apply Kept.drew) | exact HK.out)) hkp (fun k_ h_ => .inl (hoki3 k_ h_).1)); replace HB := Aside0.mk hb))
     go_roundg k1
     case measure => have := HK1.out; omega
     case rel => exact ⟨x0_1.set (x5_1 : Int).toNat (⟨x1_1, wrap64 (x1_1 + 1), s2⟩ : S57), t2, wrap64 (x5_1 + 1), (by first | rfl | (simp; done) | (simp [*]; done)), (by first | rfl | (simp; done) | (simp [*]; done)), H', ⟨by have := HK1.out; omega⟩, ⟨(sp_ HO.out)⟩, ⟨(by repeat (first | (with_reducible first | exact HK.out | apply Kept.alloc | apply Kept.drewN | apply Kept.drew) | exact HK.out))⟩, ⟨(hs_ HB.out)⟩⟩
    rw [if_neg c4] at H
    exact absurd H (by simp)
   rw [if_neg c3] at H
   have c3b0 : decide (x5_1 < (x0_1.length : Int)) = false := decide_eq_false c3
   simp only [Option.some.injEq, Prod.mk.injEq] at H
   obtain ⟨rfl, rfl⟩ := H
   obtain ⟨Ao, co, eo⟩ := Kd.S_slice HO.out
   subst eo
   go_wp2
   go_ret
   exact ⟨by first | rfl | (simp [*] <;> rfl), (sp_ HO.out), (hs_ HB.out), (by repeat (first | (with_reducible first | exact HK.out | apply Kept.alloc | apply Kept.drewN | apply Kept.drew) | exact HK.out))⟩
def spec_PartOf.f (a0 : Int) (a1 : Int) : Option (Int) := if a1 < 1 then (some 0) else (if a0 < 0 then (some 0) else (if a1 = 0 then (none) else (some (Int.tmod a0 a1))))
theorem spec_PartOf.calls (a0 : Int) (a1 : Int) (r : Int) (w : World) (h : spec_PartOf.f a0 a1 = some r) :
  Calls Try.prog 56 #[.int .i64 a0, .int .i64 a1] w fun e w' => e = .returned (.int .i64 r) ∧ Drawn0 w w' := by
 have H : (if a1 < 1 then (some 0) else (if a0 < 0 then (some 0) else (if a1 = 0 then (none) else (some (Int.tmod a0 a1))))) = some r := h
 clear h
 by_cases c3 : a1 < 1
 ·
  rw [if_pos c3] at H
  have c3b0 := decide_eq_true c3
  clear c3
  obtain rfl := Option.some.inj H
  go_enter Try.func56, Try.ntmps56
  go_wp2
  go_ret
  exact ⟨by first | rfl | (simp; done) | (simp [*]; done), by repeat (first | exact Drawn0.refl _ | apply Drawn0.step)⟩
 rw [if_neg c3] at H
 have c3b0 : decide (a1 < 1) = false := decide_eq_false c3
 clear c3
 by_cases c4 : a0 < 0
 ·
  rw [if_pos c4] at H
  have c4b0 := decide_eq_true c4
  clear c4
  obtain rfl := Option.some.inj H
  go_enter Try.func56, Try.ntmps56
  go_wp2
  go_ret
  exact ⟨by first | rfl | (simp; done) | (simp [*]; done), by repeat (first | exact Drawn0.refl _ | apply Drawn0.step)⟩
 rw [if_neg c4] at H
 have c4b0 : decide (a0 < 0) = false := decide_eq_false c4
 clear c4
 by_cases c5 : a1 = 0
 ·
  rw [if_pos c5] at H
  exact absurd H (by simp)
 rw [if_neg c5] at H
 have c5b0 : (a1 == 0) = false := beq_eq_false_iff_ne.mpr c5
 have c5b1 : (a1 != 0) = true := bne_iff_ne.mpr c5
 obtain rfl := Option.some.inj H
 go_enter Try.func56, Try.ntmps56
 go_wp2
 go_ret
 exact ⟨by first | rfl | (simp; done) | (simp [*]; done), by repeat (first | exact Drawn0.refl _ | apply Drawn0.step)⟩
def spec_Sum.l0 : Nat → ByteArray → Int → Int → Option (Int)
 | 0, _, _, _ => none
 | k + 1, x0, x3, x4 => if x4 < (x0.size : Int) then (if 0 ≤ x4 then (spec_Sum.l0 k x0 (Go.bits .and .i64 (wrap64 ((Go.bits .xor .i64 x3 (wrap64 (bt x0 x4))) * 16777619)) 4294967295) (wrap64 (x4 + 1))) else (none)) else (some x3)
def spec_Sum.f (k : Nat) (a0 : ByteArray) : Option (Int) := spec_Sum.l0 k a0 2166136261 0
theorem spec_Sum.mono_l : ∀ k, (∀ y0 y1 y2, LeO (spec_Sum.l0 k y0 y1 y2) (spec_Sum.l0 (k + 1) y0 y1 y2))
 | 0 => fun _ _ _ r h => by simp [spec_Sum.l0] at h
 | k + 1 => by
  have ih0 := spec_Sum.mono_l k
  intro y0 y1 y2
  unfold spec_Sum.l0
  repeat' first
  | (with_reducible exact ih0 _ _ _)
  | (with_reducible exact LeO.refl _)
  | (with_reducible exact LeO.none _)
  | (with_reducible refine LeO.ite ?_ ?_)
  | (with_reducible refine LeO.bind ?_ (fun _ => ?_))
  | exact ih0 _ _ _
theorem spec_Sum.mono : ∀ a0 k, LeO (spec_Sum.f k a0) (spec_Sum.f (k + 1) a0) := by
 intro a0 k
 have ih0 := spec_Sum.mono_l k
 unfold spec_Sum.f
 repeat' first | (with_reducible first | exact ih0 _ _ _ | exact LeO.refl _ | exact LeO.none _ | refine LeO.ite ?_ ?_ | refine LeO.bind ?_ (fun _ => ?_)) | exact ih0 _ _ _
theorem spec_Sum.calls (k : Nat) (a0 : ByteArray) (r : Int) (w : World) (h : spec_Sum.f k a0 = some r) :
  Calls Try.prog 95 #[.string a0] w fun e w' => e = .returned (.int .i64 r) ∧ Drawn0 w w' := by
 have H : (spec_Sum.l0 k a0 2166136261 0) = some r := h
 clear h
 have H' := Aside0.mk H
 clear H
 go_enter Try.func95, Try.ntmps95
 go_wp2
 go_loopg [3, 4] k (fun kq v3 v4 w' => ∃ (x3_1 : Int) (x4_1 : Int), v3 = .int .i64 x3_1 ∧ v4 = .int .i64 x4_1 ∧ Aside0 (spec_Sum.l0 kq a0 x3_1 x4_1 = some r) ∧ Aside0 (kq ≤ k) ∧ Drawn0 w w')
 case atStart => exact ⟨(2166136261), (0), (by first | rfl | (simp; done) | (simp [*]; done)), (by first | rfl | (simp; done) | (simp [*]; done)), H', ⟨Nat.le_refl _⟩, by repeat (first | exact Drawn0.refl _ | apply Drawn0.step)⟩
 case round =>
  clear H'
  obtain ⟨x3_1, x4_1, rfl, rfl, HA, HK1, ⟨m1, rfl⟩⟩ := hrel
  cases gk with
  | zero => exact absurd HA.out (by simp [spec_Sum.l0])
  | succ k1 =>
   have H := HA.out
   clear HA
   simp only [spec_Sum.l0] at H
   by_cases c2 : x4_1 < (a0.size : Int)
   ·
    rw [if_pos c2] at H
    have c2b0 := decide_eq_true c2
    clear c2
    by_cases c3 : 0 ≤ x4_1
    ·
     rw [if_pos c3] at H
     have c3b0 := decide_eq_true c3
     clear c3
     have H' := Aside0.mk H
     clear H
     have p4 : 0 ≤ (x4_1 : Int) := of_decide_eq_true (by with_reducible assumption)
     have q4 : x4_1 < (a0.size : Int) := of_decide_eq_true (by with_reducible assumption)
     have hx4 := bt_at a0 x4_1
     replace p4 := eq_true p4
     replace q4 := eq_true q4
     go_wp2
     go_roundg k1
     case measure => have := HK1.out; omega
     case rel => exact ⟨(Go.bits .and .i64 (wrap64 ((Go.bits .xor .i64 x3_1 (wrap64 (bt a0 x4_1))) * 16777619)) 4294967295), (wrap64 (x4_1 + 1)), (by first | rfl | (simp; done) | (simp [*]; done)), (by first | rfl | (simp; done) | (simp [*]; done)), H', ⟨by have := HK1.out; omega⟩, by repeat (first | exact Drawn0.refl _ | apply Drawn0.step)⟩
    rw [if_neg c3] at H
    exact absurd H (by simp)
   rw [if_neg c2] at H
   have c2b0 : decide (x4_1 < (a0.size : Int)) = false := decide_eq_false c2
   clear c2
   obtain rfl := Option.some.inj H
   go_wp2
   go_ret
   exact ⟨by first | rfl | (simp; done) | (simp [*]; done), by repeat (first | exact Drawn0.refl _ | apply Drawn0.step)⟩
def spec_Less.f (a0 : ByteArray) (a1 : ByteArray) : Option (Bool) := some (Op.bytesLess a0.toList a1.toList)
theorem spec_Less.calls (a0 : ByteArray) (a1 : ByteArray) (r : Bool) (w : World) (h : spec_Less.f a0 a1 = some r) :
  Calls Try.prog 127 #[.string a0, .string a1] w fun e w' => e = .returned (.bool r) ∧ Drawn0 w w' := by
 have H : (some (Op.bytesLess a0.toList a1.toList)) = some r := h
 clear h
 obtain rfl := Option.some.inj H
 go_enter Try.func127, Try.ntmps127
 go_wp2
 go_ret
 exact ⟨by first | rfl | (simp; done) | (simp [*]; done), by repeat (first | exact Drawn0.refl _ | apply Drawn0.step)⟩
def spec_PlainOk.l0 : Nat → ByteArray → Int → Option (Bool)
 | 0, _, _ => none
 | k + 1, x0, x3 => if x3 < (x0.size : Int) then (if 0 ≤ x3 then (if (bt x0 x3) < 32 then (some false) else (if (bt x0 x3) > 126 then (some false) else (if (bt x0 x3) = 34 then (some false) else (if (bt x0 x3) = 92 then (some false) else (spec_PlainOk.l0 k x0 (wrap64 (x3 + 1))))))) else (none)) else (some (decide ((x0.size : Int) ≤ 12)))
def spec_PlainOk.f (k : Nat) (a0 : ByteArray) : Option (Bool) := spec_PlainOk.l0 k a0 0
theorem spec_PlainOk.mono_l : ∀ k, (∀ y0 y1, LeO (spec_PlainOk.l0 k y0 y1) (spec_PlainOk.l0 (k + 1) y0 y1))
 | 0 => fun _ _ r h => by simp [spec_PlainOk.l0] at h
 | k + 1 => by
  have ih0 := spec_PlainOk.mono_l k
  intro y0 y1
  unfold spec_PlainOk.l0
  repeat' first
  | (with_reducible exact ih0 _ _)
  | (with_reducible exact LeO.refl _)
  | (with_reducible exact LeO.none _)
  | (with_reducible refine LeO.ite ?_ ?_)
  | (with_reducible refine LeO.bind ?_ (fun _ => ?_))
  | exact ih0 _ _
theorem spec_PlainOk.mono : ∀ a0 k, LeO (spec_PlainOk.f k a0) (spec_PlainOk.f (k + 1) a0) := by
 intro a0 k
 have ih0 := spec_PlainOk.mono_l k
 unfold spec_PlainOk.f
 repeat' first | (with_reducible first | exact ih0 _ _ | exact LeO.refl _ | exact LeO.none _ | refine LeO.ite ?_ ?_ | refine LeO.bind ?_ (fun _ => ?_)) | exact ih0 _ _
theorem spec_PlainOk.calls (k : Nat) (a0 : ByteArray) (r : Bool) (w : World) (h : spec_PlainOk.f k a0 = some r) :
  Calls Try.prog 121 #[.string a0] w fun e w' => e = .returned (.bool r) ∧ Drawn0 w w' := by
 have H : (spec_PlainOk.l0 k a0 0) = some r := h
 clear h
 have H' := Aside0.mk H
 clear H
 go_enter Try.func121, Try.ntmps121
 go_wp2
 go_loopg [3] k (fun kq v3 w' => ∃ (x3_1 : Int), v3 = .int .i64 x3_1 ∧ Aside0 (spec_PlainOk.l0 kq a0 x3_1 = some r) ∧ Aside0 (kq ≤ k) ∧ Drawn0 w w')
 case atStart => exact ⟨(0), (by first | rfl | (simp; done) | (simp [*]; done)), H', ⟨Nat.le_refl _⟩, by repeat (first | exact Drawn0.refl _ | apply Drawn0.step)⟩
 case round =>
  clear H'
  try clear c1
  obtain ⟨x3_1, rfl, HA, HK1, ⟨m1, rfl⟩⟩ := hrel
  cases gk with
  | zero => exact absurd HA.out (by simp [spec_PlainOk.l0])
  | succ k1 =>
   have H := HA.out
   clear HA
   simp only [spec_PlainOk.l0] at H
   by_cases c2 : x3_1 < (a0.size : Int)
   ·
    rw [if_pos c2] at H
    have c2b0 := decide_eq_true c2
    clear c2
    by_cases c3 : 0 ≤ x3_1
    ·
     rw [if_pos c3] at H
     have c3b0 := decide_eq_true c3
     clear c3
     by_cases c5 : (bt a0 x3_1) < 32
     ·
      rw [if_pos c5] at H
      have c5b0 := decide_eq_true c5
      clear c5
      obtain rfl := Option.some.inj H
      have p4 : 0 ≤ (x3_1 : Int) := of_decide_eq_true (by with_reducible assumption)
      have q4 : x3_1 < (a0.size : Int) := of_decide_eq_true (by with_reducible assumption)
      have hx4 := bt_at a0 x3_1
      replace p4 := eq_true p4
      replace q4 := eq_true q4
      go_wp2
      go_ret
      exact ⟨by first | rfl | (simp; done) | (simp [*]; done), by repeat (first | exact Drawn0.refl _ | apply Drawn0.step)⟩
     rw [if_neg c5] at H
     have c5b0 : decide ((bt a0 x3_1) < 32) = false := decide_eq_false c5
     clear c5
     by_cases c7 : (bt a0 x3_1) > 126
     ·
      rw [if_pos c7] at H
      have c7b0 : decide (126 < (bt a0 x3_1)) = true := decide_eq_true c7
      clear c7
      obtain rfl := Option.some.inj H
      have p4 : 0 ≤ (x3_1 : Int) := of_decide_eq_true (by with_reducible assumption)
      have q4 : x3_1 < (a0.size : Int) := of_decide_eq_true (by with_reducible assumption)
      have hx4 := bt_at a0 x3_1
      replace p4 := eq_true p4
      replace q4 := eq_true q4
      have p6 : 0 ≤ (x3_1 : Int) := of_decide_eq_true (by with_reducible assumption)
      have q6 : x3_1 < (a0.size : Int) := of_decide_eq_true (by with_reducible assumption)
      have hx6 := bt_at a0 x3_1
      replace p6 := eq_true p6
      replace q6 := eq_true q6
      go_wp2
      go_ret
      exact ⟨by first | rfl | (simp; done) | (simp [*]; done), by repeat (first | exact Drawn0.refl _ | apply Drawn0.step)⟩
     rw [if_neg c7] at H
     have c7b0 : decide (126 < (bt a0 x3_1)) = false := decide_eq_false c7
     clear c7
     by_cases c9 : (bt a0 x3_1) = 34
     ·
      rw [if_pos c9] at H
      have c9b0 : ((bt a0 x3_1) == 34) = true := beq_iff_eq.mpr c9
      have c9b1 : ((bt a0 x3_1) != 34) = false := bne_eq_false_iff_eq.mpr c9
      clear c9
      obtain rfl := Option.some.inj H
      have p4 : 0 ≤ (x3_1 : Int) := of_decide_eq_true (by with_reducible assumption)
      have q4 : x3_1 < (a0.size : Int) := of_decide_eq_true (by with_reducible assumption)
      have hx4 := bt_at a0 x3_1
      replace p4 := eq_true p4
      replace q4 := eq_true q4
      have p6 : 0 ≤ (x3_1 : Int) := of_decide_eq_true (by with_reducible assumption)
      have q6 : x3_1 < (a0.size : Int) := of_decide_eq_true (by with_reducible assumption)
      have hx6 := bt_at a0 x3_1
      replace p6 := eq_true p6
      replace q6 := eq_true q6
      have p8 : 0 ≤ (x3_1 : Int) := of_decide_eq_true (by with_reducible assumption)
      have q8 : x3_1 < (a0.size : Int) := of_decide_eq_true (by with_reducible assumption)
      have hx8 := bt_at a0 x3_1
      replace p8 := eq_true p8
      replace q8 := eq_true q8
      go_wp2
      go_ret
      exact ⟨by first | rfl | (simp; done) | (simp [*]; done), by repeat (first | exact Drawn0.refl _ | apply Drawn0.step)⟩
     rw [if_neg c9] at H
     have c9b0 : ((bt a0 x3_1) == 34) = false := beq_eq_false_iff_ne.mpr c9
     have c9b1 : ((bt a0 x3_1) != 34) = true := bne_iff_ne.mpr c9
     by_cases c11 : (bt a0 x3_1) = 92
     ·
      rw [if_pos c11] at H
      have c11b0 : ((bt a0 x3_1) == 92) = true := beq_iff_eq.mpr c11
      have c11b1 : ((bt a0 x3_1) != 92) = false := bne_eq_false_iff_eq.mpr c11
      clear c11
      obtain rfl := Option.some.inj H
      have p4 : 0 ≤ (x3_1 : Int) := of_decide_eq_true (by with_reducible assumption)
      have q4 : x3_1 < (a0.size : Int) := of_decide_eq_true (by with_reducible assumption)
      have hx4 := bt_at a0 x3_1
      replace p4 := eq_true p4
      replace q4 := eq_true q4
      have p6 : 0 ≤ (x3_1 : Int) := of_decide_eq_true (by with_reducible assumption)
      have q6 : x3_1 < (a0.size : Int) := of_decide_eq_true (by with_reducible assumption)
      have hx6 := bt_at a0 x3_1
      replace p6 := eq_true p6
      replace q6 := eq_true q6
      have p8 : 0 ≤ (x3_1 : Int) := of_decide_eq_true (by with_reducible assumption)
      have q8 : x3_1 < (a0.size : Int) := of_decide_eq_true (by with_reducible assumption)
      have hx8 := bt_at a0 x3_1
      replace p8 := eq_true p8
      replace q8 := eq_true q8
      have p10 : 0 ≤ (x3_1 : Int) := of_decide_eq_true (by with_reducible assumption)
      have q10 : x3_1 < (a0.size : Int) := of_decide_eq_true (by with_reducible assumption)
      have hx10 := bt_at a0 x3_1
      replace p10 := eq_true p10
      replace q10 := eq_true q10
      go_wp2
      go_ret
      exact ⟨by first | rfl | (simp; done) | (simp [*]; done), by repeat (first | exact Drawn0.refl _ | apply Drawn0.step)⟩
     rw [if_neg c11] at H
     have c11b0 : ((bt a0 x3_1) == 92) = false := beq_eq_false_iff_ne.mpr c11
     have c11b1 : ((bt a0 x3_1) != 92) = true := bne_iff_ne.mpr c11
     have H' := Aside0.mk H
     clear H
     have p4 : 0 ≤ (x3_1 : Int) := of_decide_eq_true (by with_reducible assumption)
     have q4 : x3_1 < (a0.size : Int) := of_decide_eq_true (by with_reducible assumption)
     have hx4 := bt_at a0 x3_1
     replace p4 := eq_true p4
     replace q4 := eq_true q4
     have p6 : 0 ≤ (x3_1 : Int) := of_decide_eq_true (by with_reducible assumption)
     have q6 : x3_1 < (a0.size : Int) := of_decide_eq_true (by with_reducible assumption)
     have hx6 := bt_at a0 x3_1
     replace p6 := eq_true p6
     replace q6 := eq_true q6
     have p8 : 0 ≤ (x3_1 : Int) := of_decide_eq_true (by with_reducible assumption)
     have q8 : x3_1 < (a0.size : Int) := of_decide_eq_true (by with_reducible assumption)
     have hx8 := bt_at a0 x3_1
     replace p8 := eq_true p8
     replace q8 := eq_true q8
     have p10 : 0 ≤ (x3_1 : Int) := of_decide_eq_true (by with_reducible assumption)
     have q10 : x3_1 < (a0.size : Int) := of_decide_eq_true (by with_reducible assumption)
     have hx10 := bt_at a0 x3_1
     replace p10 := eq_true p10
     replace q10 := eq_true q10
     go_wp2
     go_roundg k1
     case measure => have := HK1.out; omega
     case rel => exact ⟨(wrap64 (x3_1 + 1)), (by first | rfl | (simp; done) | (simp [*]; done)), H', ⟨by have := HK1.out; omega⟩, by repeat (first | exact Drawn0.refl _ | apply Drawn0.step)⟩
    rw [if_neg c3] at H
    exact absurd H (by simp)
   rw [if_neg c2] at H
   have c2b0 : decide (x3_1 < (a0.size : Int)) = false := decide_eq_false c2
   clear c2
   obtain rfl := Option.some.inj H
   go_wp2
   go_ret
   exact ⟨by first | rfl | (simp; done) | (simp [*]; done), by repeat (first | exact Drawn0.refl _ | apply Drawn0.step)⟩
def spec_l1In.f (a0 : Int) (a1 : Int) (a2 : Int) : Option (Bool) := if a0 ≥ a1 then (some (decide (a0 ≤ a2))) else (some false)
theorem spec_l1In.calls (a0 : Int) (a1 : Int) (a2 : Int) (r : Bool) (w : World) (h : spec_l1In.f a0 a1 a2 = some r) :
  Calls Try.prog 70 #[.int .i64 a0, .int .i64 a1, .int .i64 a2] w fun e w' => e = .returned (.bool r) ∧ Drawn0 w w' := by
 have H : (if a0 ≥ a1 then (some (decide (a0 ≤ a2))) else (some false)) = some r := h
 clear h
 by_cases c4 : a0 ≥ a1
 ·
  rw [if_pos c4] at H
  have c4b0 : decide (a1 ≤ a0) = true := decide_eq_true c4
  clear c4
  obtain rfl := Option.some.inj H
  go_enter Try.func70, Try.ntmps70
  go_wp2
  go_ret
  exact ⟨by first | rfl | (simp; done) | (simp [*]; done), by repeat (first | exact Drawn0.refl _ | apply Drawn0.step)⟩
 rw [if_neg c4] at H
 have c4b0 : decide (a1 ≤ a0) = false := decide_eq_false c4
 clear c4
 obtain rfl := Option.some.inj H
 go_enter Try.func70, Try.ntmps70
 go_wp2
 go_ret
 exact ⟨by first | rfl | (simp; done) | (simp [*]; done), by repeat (first | exact Drawn0.refl _ | apply Drawn0.step)⟩
def spec_NameOk.l0 : Nat → ByteArray → Int → Option (Bool)
 | 0, _, _ => none
 | k + 1, x0, x3 => if x3 < (x0.size : Int) then (if 0 ≤ x3 then (if (bt x0 x3) < 97 then (some false) else (if (bt x0 x3) > 122 then (some false) else (spec_NameOk.l0 k x0 (wrap64 (x3 + 1))))) else (none)) else ((spec_l1In.f (x0.size : Int) 1 8).bind fun t116 => (some t116))
def spec_NameOk.f (k : Nat) (a0 : ByteArray) : Option (Bool) := spec_NameOk.l0 k a0 0
theorem spec_NameOk.mono_l : ∀ k, (∀ y0 y1, LeO (spec_NameOk.l0 k y0 y1) (spec_NameOk.l0 (k + 1) y0 y1))
 | 0 => fun _ _ r h => by simp [spec_NameOk.l0] at h
 | k + 1 => by
  have ih0 := spec_NameOk.mono_l k
  intro y0 y1
  unfold spec_NameOk.l0
  repeat' first
  | (with_reducible exact ih0 _ _)
  | (with_reducible exact LeO.refl _)
  | (with_reducible exact LeO.none _)
  | (with_reducible refine LeO.ite ?_ ?_)
  | (with_reducible refine LeO.bind ?_ (fun _ => ?_))
  | exact ih0 _ _
theorem spec_NameOk.mono : ∀ a0 k, LeO (spec_NameOk.f k a0) (spec_NameOk.f (k + 1) a0) := by
 intro a0 k
 have ih0 := spec_NameOk.mono_l k
 unfold spec_NameOk.f
 repeat' first | (with_reducible first | exact ih0 _ _ | exact LeO.refl _ | exact LeO.none _ | refine LeO.ite ?_ ?_ | refine LeO.bind ?_ (fun _ => ?_)) | exact ih0 _ _
theorem spec_NameOk.calls (k : Nat) (a0 : ByteArray) (r : Bool) (w : World) (h : spec_NameOk.f k a0 = some r) :
  Calls Try.prog 148 #[.string a0] w fun e w' => e = .returned (.bool r) ∧ Drawn0 w w' := by
 have H : (spec_NameOk.l0 k a0 0) = some r := h
 clear h
 have H' := Aside0.mk H
 clear H
 go_enter Try.func148, Try.ntmps148
 go_wp2
 go_loopg [3] k (fun kq v3 w' => ∃ (x3_1 : Int), v3 = .int .i64 x3_1 ∧ Aside0 (spec_NameOk.l0 kq a0 x3_1 = some r) ∧ Aside0 (kq ≤ k) ∧ Drawn0 w w')
 case atStart => exact ⟨(0), (by first | rfl | (simp; done) | (simp [*]; done)), H', ⟨Nat.le_refl _⟩, by repeat (first | exact Drawn0.refl _ | apply Drawn0.step)⟩
 case round =>
  clear H'
  try clear c1
  obtain ⟨x3_1, rfl, HA, HK1, ⟨m1, rfl⟩⟩ := hrel
  cases gk with
  | zero => exact absurd HA.out (by simp [spec_NameOk.l0])
  | succ k1 =>
   have H := HA.out
   clear HA
   simp only [spec_NameOk.l0] at H
   by_cases c2 : x3_1 < (a0.size : Int)
   ·
    rw [if_pos c2] at H
    have c2b0 := decide_eq_true c2
    clear c2
    by_cases c3 : 0 ≤ x3_1
    ·
     rw [if_pos c3] at H
     have c3b0 := decide_eq_true c3
     clear c3
     by_cases c5 : (bt a0 x3_1) < 97
     ·
      rw [if_pos c5] at H
      have c5b0 := decide_eq_true c5
      clear c5
      obtain rfl := Option.some.inj H
      have p4 : 0 ≤ (x3_1 : Int) := of_decide_eq_true (by with_reducible assumption)
      have q4 : x3_1 < (a0.size : Int) := of_decide_eq_true (by with_reducible assumption)
      have hx4 := bt_at a0 x3_1
      replace p4 := eq_true p4
      replace q4 := eq_true q4
      go_wp2
      go_ret
      exact ⟨by first | rfl | (simp; done) | (simp [*]; done), by repeat (first | exact Drawn0.refl _ | apply Drawn0.step)⟩
     rw [if_neg c5] at H
     have c5b0 : decide ((bt a0 x3_1) < 97) = false := decide_eq_false c5
     clear c5
     by_cases c7 : (bt a0 x3_1) > 122
     ·
      rw [if_pos c7] at H
      have c7b0 : decide (122 < (bt a0 x3_1)) = true := decide_eq_true c7
      clear c7
      obtain rfl := Option.some.inj H
      have p4 : 0 ≤ (x3_1 : Int) := of_decide_eq_true (by with_reducible assumption)
      have q4 : x3_1 < (a0.size : Int) := of_decide_eq_true (by with_reducible assumption)
      have hx4 := bt_at a0 x3_1
      replace p4 := eq_true p4
      replace q4 := eq_true q4
      have p6 : 0 ≤ (x3_1 : Int) := of_decide_eq_true (by with_reducible assumption)
      have q6 : x3_1 < (a0.size : Int) := of_decide_eq_true (by with_reducible assumption)
      have hx6 := bt_at a0 x3_1
      replace p6 := eq_true p6
      replace q6 := eq_true q6
      go_wp2
      go_ret
      exact ⟨by first | rfl | (simp; done) | (simp [*]; done), by repeat (first | exact Drawn0.refl _ | apply Drawn0.step)⟩
     rw [if_neg c7] at H
     have c7b0 : decide (122 < (bt a0 x3_1)) = false := decide_eq_false c7
     clear c7
     have H' := Aside0.mk H
     clear H
     have p4 : 0 ≤ (x3_1 : Int) := of_decide_eq_true (by with_reducible assumption)
     have q4 : x3_1 < (a0.size : Int) := of_decide_eq_true (by with_reducible assumption)
     have hx4 := bt_at a0 x3_1
     replace p4 := eq_true p4
     replace q4 := eq_true q4
     have p6 : 0 ≤ (x3_1 : Int) := of_decide_eq_true (by with_reducible assumption)
     have q6 : x3_1 < (a0.size : Int) := of_decide_eq_true (by with_reducible assumption)
     have hx6 := bt_at a0 x3_1
     replace p6 := eq_true p6
     replace q6 := eq_true q6
     go_wp2
     go_roundg k1
     case measure => have := HK1.out; omega
     case rel => exact ⟨(wrap64 (x3_1 + 1)), (by first | rfl | (simp; done) | (simp [*]; done)), H', ⟨by have := HK1.out; omega⟩, by repeat (first | exact Drawn0.refl _ | apply Drawn0.step)⟩
    rw [if_neg c3] at H
    exact absurd H (by simp)
   rw [if_neg c2] at H
   have c2b0 : decide (x3_1 < (a0.size : Int)) = false := decide_eq_false c2
   clear c2
   replace H := Option.bind_eq_some_iff.mp H
   obtain ⟨t116, A80, H⟩ := H
   have A8 := Aside0.mk A80
   clear A80
   obtain rfl := Option.some.inj H
   go_wp2_with (first | ((with_reducible refine gate_callee (f := 70) rfl ?_); refine gl_ (some 22) Try.func70 #[.int .i64 (a0.size : Int), .int .i64 1, .int .i64 8] ?_; (with_reducible refine (spec_l1In.calls (a0.size : Int) 1 8 t116 _ A8.out).mono ?_); rintro e w' ⟨rfl, ⟨nd, rfl⟩⟩; refine ⟨_, rfl, ?_⟩))
   go_ret
   exact ⟨by first | rfl | (simp; done) | (simp [*]; done), by repeat (first | exact Drawn0.refl _ | apply Drawn0.step)⟩
def spec_LabelOk.f (k : Nat) (a0_0 : ByteArray) (a0_1 : ByteArray) : Option (Bool) := (spec_NameOk.f k a0_0).bind fun t118 => (if t118 = true then ((spec_PlainOk.f k a0_1).bind fun t119 => (some t119)) else (some false))
theorem spec_LabelOk.mono : ∀ a0 a1 k, LeO (spec_LabelOk.f k a0 a1) (spec_LabelOk.f (k + 1) a0 a1) := by
 intro a0 a1 k
 unfold spec_LabelOk.f
 repeat' first | (with_reducible first | exact spec_NameOk.mono _ _ | exact spec_PlainOk.mono _ _ | exact LeO.refl _ | exact LeO.none _ | refine LeO.ite ?_ ?_ | refine LeO.bind ?_ (fun _ => ?_)) | exact spec_NameOk.mono _ _ | exact spec_PlainOk.mono _ _
theorem spec_LabelOk.calls (k : Nat) (a0_0 : ByteArray) (a0_1 : ByteArray) (r : Bool) (w : World) (h : spec_LabelOk.f k a0_0 a0_1 = some r) :
  Calls Try.prog 132 #[.agg #[.string a0_0, .string a0_1]] w fun e w' => e = .returned (.bool r) ∧ Below w.heap.size w w' := by
 have hu88 := Try.underlying88
 have HB := Aside0.mk (Below.refl w.heap.size w)
 have H : ((spec_NameOk.f k a0_0).bind fun t118 => (if t118 = true then ((spec_PlainOk.f k a0_1).bind fun t119 => (some t119)) else (some false))) = some r := h
 clear h
 replace H := Option.bind_eq_some_iff.mp H
 obtain ⟨t118, A20, H⟩ := H
 have A2 := Aside0.mk A20
 clear A20
 by_cases c3 : t118 = true
 ·
  subst c3
  rw [if_pos rfl] at H
  replace H := Option.bind_eq_some_iff.mp H
  obtain ⟨t119, A40, H⟩ := H
  have A4 := Aside0.mk A40
  clear A40
  obtain rfl := Option.some.inj H
  go_enter Try.func132, Try.ntmps132
  go_wp2_with (first | ((with_reducible refine gd_ 1 rfl ?_); refine bv_ 1 #[.string a0_0, .string a0_1] 88 ?_; intro gb117 hg w5 hbox hb; have BK117 := Aside0.mk (hbox); have GW117 := Aside0.mk ((gw_ hg (hs_ HB.out))); replace HB := st_ HB hb; have GE117 := Ge_.mk GW117.out; clear hb hbox hg; obtain ⟨z6_0, z6_1, y6_0, y6_1⟩ := bc2_ BK117.out) | ((with_reducible refine gate_callee (f := 148) rfl ?_); refine gl_ (some 5) Try.func148 #[.string a0_0] ?_; (with_reducible refine (spec_NameOk.calls k a0_0 true _ A2.out).mono ?_); rintro e w' ⟨rfl, ⟨nd, rfl⟩⟩; refine ⟨_, rfl, ?_⟩) | (go_at_call 121; (with_reducible refine (spec_PlainOk.calls k a0_1 t119 _ A4.out).mono ?_); rintro e w' ⟨rfl, ⟨nd, rfl⟩⟩))
  go_ret
  exact an_ (by exact hs_ HB.out)
 replace c3 := Bool.eq_false_iff.mpr c3
 subst c3
 rw [if_neg (show ¬ (false = true) by decide)] at H
 obtain rfl := Option.some.inj H
 go_enter Try.func132, Try.ntmps132
 go_wp2_with (first | ((with_reducible refine gd_ 1 rfl ?_); refine bv_ 1 #[.string a0_0, .string a0_1] 88 ?_; intro gb117 hg w7 hbox hb; have BK117 := Aside0.mk (hbox); have GW117 := Aside0.mk ((gw_ hg (hs_ HB.out))); replace HB := st_ HB hb; have GE117 := Ge_.mk GW117.out; clear hb hbox hg; obtain ⟨z8_0, z8_1, y8_0, y8_1⟩ := bc2_ BK117.out) | ((with_reducible refine gate_callee (f := 148) rfl ?_); refine gl_ (some 5) Try.func148 #[.string a0_0] ?_; (with_reducible refine (spec_NameOk.calls k a0_0 false _ A2.out).mono ?_); rintro e w' ⟨rfl, ⟨nd, rfl⟩⟩; refine ⟨_, rfl, ?_⟩))
 go_ret
 exact an_ (by exact hs_ HB.out)
def spec_SetOk.l0 : Nat → List (S88) → Int → Option (Bool)
 | 0, _, _ => none
 | k + 1, x0, x3 => if x3 < (x0.length : Int) then (if 0 ≤ x3 then ((spec_LabelOk.f k ((rd_T88 x0 x3).f0) ((rd_T88 x0 x3).f1)).bind fun t121 => (if t121 = true then (if x3 > 0 then (if 0 ≤ (wrap64 (x3 - 1)) then (if (wrap64 (x3 - 1)) < (x0.length : Int) then ((spec_Less.f ((rd_T88 x0 (wrap64 (x3 - 1))).f0) ((rd_T88 x0 x3).f0)).bind fun t124 => (if t124 = true then (spec_SetOk.l0 k x0 (wrap64 (x3 + 1))) else (some false))) else (none)) else (none)) else (spec_SetOk.l0 k x0 (wrap64 (x3 + 1)))) else (some false))) else (none)) else (some (decide ((x0.length : Int) ≤ 4)))
def spec_SetOk.f (k : Nat) (l0 : List (S88)) : Option (Bool) := spec_SetOk.l0 k l0 0
theorem spec_SetOk.mono_l : ∀ k, (∀ y0 y1, LeO (spec_SetOk.l0 k y0 y1) (spec_SetOk.l0 (k + 1) y0 y1))
 | 0 => fun _ _ r h => by simp [spec_SetOk.l0] at h
 | k + 1 => by
  have ih0 := spec_SetOk.mono_l k
  intro y0 y1
  unfold spec_SetOk.l0
  repeat' first
  | (with_reducible exact ih0 _ _)
  | (with_reducible exact spec_LabelOk.mono _ _ _)
  | (with_reducible exact LeO.refl _)
  | (with_reducible exact LeO.none _)
  | (with_reducible refine LeO.ite ?_ ?_)
  | (with_reducible refine LeO.bind ?_ (fun _ => ?_))
  | exact ih0 _ _
  | exact spec_LabelOk.mono _ _ _
theorem spec_SetOk.mono : ∀ a0 k, LeO (spec_SetOk.f k a0) (spec_SetOk.f (k + 1) a0) := by
 intro a0 k
 have ih0 := spec_SetOk.mono_l k
 unfold spec_SetOk.f
 repeat' first | (with_reducible first | exact ih0 _ _ | exact spec_LabelOk.mono _ _ _ | exact LeO.refl _ | exact LeO.none _ | refine LeO.ite ?_ ?_ | refine LeO.bind ?_ (fun _ => ?_)) | exact ih0 _ _ | exact spec_LabelOk.mono _ _ _
def spec_SetOk.T4 : Bool × List (List Nat × List Nat) := (true, [([], []), ([], []), ([0, 1], [0, 1]), ([2], [2]), ([3], [3]), ([4], [4]), ([5, 4], [5]), ([6], [6]), ([7, 6], [6, 7]), ([8, 6, 6], [6, 8]), ([9], [9]), ([9], [9]), ([11, 9], [9, 11]), ([10, 12, 9], [9, 10, 12]), ([13, 9], [9, 13]), ([14, 9], [9, 14]), ([9], [9]), ([9], [9]), ([16, 17, 9], [9, 16, 17]), ([18, 9], [9, 18]), ([19, 9], [9, 19]), ([15, 20, 9, 9], [9, 15, 20]), ([21, 9], [9, 21]), ([9, 22, 6], [6, 9, 22]), ([6, 23], [6, 23])])
def spec_SetOk.B4 : List Nat := [0, 0, 3, 7, 15, 31, 63, 127, 255, 511, 1023, 1023, 3071, 8191, 16383, 32767, 1023, 1023, 197631, 459775, 984063, 2097151, 4194303, 8388607, 16777215]
theorem spec_SetOk.tab4 : rtab .any (opsOf Try.f118 4) = spec_SetOk.T4 := by kernel_rfl
theorem spec_SetOk.bits4 : waitsOk spec_SetOk.T4.2 spec_SetOk.B4 = true := by kernel_rfl
theorem spec_SetOk.calls (k : Nat) (A0 : Option Addr) (c0 : Nat) (l0 : List (S88)) (r : Bool) (w : World) (hr0 : Kd.C k88 w A0 l0.length l0) (hc0 : l0.length ≤ c0) (h : spec_SetOk.f k l0 = some r) :
  Calls Try.prog 118 #[.slice A0 l0.length c0] w fun e w' => e = .returned (.bool r) ∧ Below w.heap.size w w' := by
 have hu88 := Try.underlying88
 have HR0 := Aside0.mk hr0
 have HC0 := Aside0.mk hc0
 clear hr0 hc0
 have HB := Aside0.mk (Below.refl w.heap.size w)
 have H : (spec_SetOk.l0 k l0 0) = some r := h
 clear h
 have H' := Aside0.mk H
 clear H
 go_enter Try.func118, Try.ntmps118
 go_wp2
 go_loopg [3] k (fun kq v3 w' => ∃ (x3_1 : Int), v3 = .int .i64 x3_1 ∧ Aside0 (spec_SetOk.l0 kq l0 x3_1 = some r) ∧ Aside0 (kq ≤ k) ∧ Aside0 (Below w.heap.size w w'))
 case atStart => exact ⟨(0), (by first | rfl | (simp; done) | (simp [*]; done)), H', ⟨Nat.le_refl _⟩, ⟨by exact hs_ HB.out⟩⟩
 case round =>
  clear H'
  try clear c1
  obtain ⟨x3_1, rfl, HA, HK1, HB⟩ := hrel
  cases gk with
  | zero => exact absurd HA.out (by simp [spec_SetOk.l0])
  | succ k1 =>
   have H := HA.out
   clear HA
   simp only [spec_SetOk.l0] at H
   by_cases c2 : x3_1 < (l0.length : Int)
   ·
    rw [if_pos c2] at H
    have c2b0 := decide_eq_true c2
    clear c2
    by_cases c3 : 0 ≤ x3_1
    ·
     rw [if_pos c3] at H
     have c3b0 := decide_eq_true c3
     clear c3
     replace H := Option.bind_eq_some_iff.mp H
     obtain ⟨t121, A40, H⟩ := H
     have A4 := Aside0.mk A40
     clear A40
     by_cases c5 : t121 = true
     ·
      subst c5
      rw [if_pos rfl] at H
      by_cases c6 : x3_1 > 0
      ·
       rw [if_pos c6] at H
       have c6b0 : decide (0 < x3_1) = true := decide_eq_true c6
       clear c6
       obtain ⟨ji7, hji7⟩ : ∃ j_ : Int, (wrap64 (x3_1 - 1)) = j_ := ⟨_, rfl⟩
       replace H : (if 0 ≤ (ji7) then (if (ji7) < (l0.length : Int) then ((spec_Less.f ((rd_T88 l0 (ji7)).f0) ((rd_T88 l0 x3_1).f0)).bind fun t124 => (if t124 = true then (spec_SetOk.l0 k1 l0 (wrap64 (x3_1 + 1))) else (some false))) else (none)) else (none)) = some r := by first | (rw [hji7] at H; exact H) | (simp only [hji7] at H ⊢; exact H)
       (try rw [hji7] at A4)
       have hji7w : (IntKind.i64.wrap (x3_1 - 1)) = ji7 := (i64_w _).trans hji7
       by_cases c8 : 0 ≤ (ji7)
       ·
        rw [if_pos c8] at H
        have c8b0 := decide_eq_true c8
        clear c8
        by_cases c9 : (ji7) < (l0.length : Int)
        ·
         rw [if_pos c9] at H
         have c9b0 := decide_eq_true c9
         clear c9
         replace H := Option.bind_eq_some_iff.mp H
         obtain ⟨t124, A100, H⟩ := H
         have A10 := Aside0.mk A100
         clear A100
         by_cases c11 : t124 = true
         ·
          subst c11
          rw [if_pos rfl] at H
          have H' := Aside0.mk H
          clear H
          try go_wp2
          replace HB := Aside0.mk (bd_ HB.out)
          have p120 : 0 ≤ (x3_1 : Int) := of_decide_eq_true (by with_reducible assumption)
          have q120 : x3_1 < (l0.length : Int) := of_decide_eq_true (by with_reducible assumption)
          obtain ⟨ad120, e120, hx120_0, hx120_1⟩ := at_T88 HR0.out x3_1 p120 q120
          have hw120_1 := hx120_1
          have hw120_0 := hx120_0
          cases e120
          replace hx120_0 := cl_ HB.out hx120_0
          replace hx120_1 := cl_ HB.out hx120_1
          replace p120 := eq_true p120
          replace q120 := eq_true q120
          have p122 : 0 ≤ ((ji7) : Int) := of_decide_eq_true (by with_reducible assumption)
          have q122 : (ji7) < (l0.length : Int) := of_decide_eq_true (by with_reducible assumption)
          obtain ⟨ad122, e122, hx122_0, hx122_1⟩ := at_T88 HR0.out (ji7) p122 q122
          have hw122_1 := hx122_1
          have hw122_0 := hx122_0
          obtain rfl : ad120 = ad122 := (by injection e122)
          replace hx122_0 := cl_ HB.out hx122_0
          replace hx122_1 := cl_ HB.out hx122_1
          replace p122 := eq_true p122
          replace q122 := eq_true q122
          have p123 : 0 ≤ (x3_1 : Int) := of_decide_eq_true (by with_reducible assumption)
          have q123 : x3_1 < (l0.length : Int) := of_decide_eq_true (by with_reducible assumption)
          obtain ⟨ad123, e123, hx123_0, hx123_1⟩ := at_T88 HR0.out x3_1 p123 q123
          have hw123_1 := hx123_1
          have hw123_0 := hx123_0
          obtain rfl : ad120 = ad123 := (by injection e123)
          replace hx123_0 := cl_ HB.out hx123_0
          replace hx123_1 := cl_ HB.out hx123_1
          replace p123 := eq_true p123
          replace q123 := eq_true q123
          refine start_ (n := 25) (S := fun w' => w'.cell? (ad120.add ((x3_1).toNat * 2)) = some (.string ((rd_T88 l0 x3_1).f0)) ∧ w'.cell? ⟨(ad120.add ((x3_1).toNat * 2)).block, (ad120.add ((x3_1).toNat * 2)).off + 1, none⟩ = some (.string ((rd_T88 l0 x3_1).f1)) ∧ w'.cell? (ad120.add (((ji7)).toNat * 2)) = some (.string ((rd_T88 l0 (ji7)).f0)) ∧ w'.cell? ⟨(ad120.add (((ji7)).toNat * 2)).block, (ad120.add (((ji7)).toNat * 2)).off + 1, none⟩ = some (.string ((rd_T88 l0 (ji7)).f1)) ∧ w'.cell? (ad120.add ((x3_1).toNat * 2)) = some (.string ((rd_T88 l0 x3_1).f0)) ∧ w'.cell? ⟨(ad120.add ((x3_1).toNat * 2)).block, (ad120.add ((x3_1).toNat * 2)).off + 1, none⟩ = some (.string ((rd_T88 l0 x3_1).f1))) (ds := []) #[f_,f_,f_,f_,f_,f_,f_,f_,f_,f_,f_,f_,f_,f_,f_,f_,f_,f_,f_,f_,f_,f_,f_,f_,f_] (by kernel_rfl) rfl rfl ⟨((HB.out.cell (World.block_lt_of_cell? w _ hw120_0)).trans hw120_0), ((HB.out.cell (World.block_lt_of_cell? w _ hw120_1)).trans hw120_1), ((HB.out.cell (World.block_lt_of_cell? w _ hw122_0)).trans hw122_0), ((HB.out.cell (World.block_lt_of_cell? w _ hw122_1)).trans hw122_1), ((HB.out.cell (World.block_lt_of_cell? w _ hw123_0)).trans hw123_0), ((HB.out.cell (World.block_lt_of_cell? w _ hw123_1)).trans hw123_1)⟩ (fun hHeld => ?_); refine with_tabW spec_SetOk.tab4 spec_SetOk.bits4 (fun HT_ HW_ => ?_)
          generalize wr.drew = w12 at HB hx120_0 hx120_1 hx122_0 hx122_1 hx123_0 hx123_1 hHeld ⊢
          refine pw_ 0 10 (b_ 1 24) rfl rfl HT_.out ?_
          refine pw_ 1 11 (b_ 2 23) rfl rfl HT_.out ?_
          refine pw_ 2 12 (b_ 3 22) rfl rfl HT_.out ?_
          refine take_ (i := 3) (N := some 13) (v := ?_) (a' := ?_) #[t_,t_,t_,t_,f_,f_,f_,f_,f_,f_,f_,f_,f_,f_,f_,f_,f_,f_,f_,f_,f_,f_,f_,f_,f_] rfl rfl (take_ofW HT_.out HW_.out (by kernel_rfl)) (fun _ _ _ h => h) (Or.inl ⟨by rfl, ?_⟩) hHeld ?_ ?_
          rotate_left
          ·
           rintro w' ⟨s0, s1, s2, s3, s4, s5⟩
           go_simp
           with_reducible rfl
          rotate_left
          ·
           simp only [fr_]
           rfl
          refine one_ (i := 4) (N := some 14) #[t_,t_,t_,t_,t_,f_,f_,f_,f_,f_,f_,f_,f_,f_,f_,f_,f_,f_,f_,f_,f_,f_,f_,f_,f_] rfl rfl (one_of HT_.out (by kernel_rfl)) (by decide) (fun K hK => ?_)
          refine gs_ Try.func132 #[.agg #[.string ((rd_T88 l0 x3_1).f0), .string ((rd_T88 l0 x3_1).f1)]] ?_
          with_reducible refine (spec_LabelOk.calls k1 ((rd_T88 l0 x3_1).f0) ((rd_T88 l0 x3_1).f1) true _ A4.out).mono ?_
          rintro e w13 ⟨rfl, hb⟩
          refine ⟨_, rfl, ?_⟩
          replace HB := st_ HB hb
          (try clear hb)
          (try clear hk)
          refine hK.out _ _ ⟨((HB.out.cell (World.block_lt_of_cell? w _ hw120_0)).trans hw120_0), ((HB.out.cell (World.block_lt_of_cell? w _ hw120_1)).trans hw120_1), ((HB.out.cell (World.block_lt_of_cell? w _ hw122_0)).trans hw122_0), ((HB.out.cell (World.block_lt_of_cell? w _ hw122_1)).trans hw122_1), ((HB.out.cell (World.block_lt_of_cell? w _ hw123_0)).trans hw123_0), ((HB.out.cell (World.block_lt_of_cell? w _ hw123_1)).trans hw123_1)⟩ (fun hHeld => ?_)
          clear hK K
          refine norm_ (a' := ?_) ?_ ?_
          rotate_left
          ·
           show Act.put _ (some 14) _ = _
           simp only [fr_]
           rfl
          refine pw_ 5 15 (b_ 6 19) rfl rfl HT_.out ?_
          refine pw_ 6 16 (b_ 7 18) rfl rfl HT_.out ?_
          refine pw_ 7 17 (b_ 8 17) rfl rfl HT_.out ?_
          refine pw_ 8 18 (b_ 9 16) rfl rfl HT_.out ?_
          refine pw_ 9 19 (b_ 10 15) rfl rfl HT_.out ?_
          refine pw_ 10 20 (b_ 11 14) rfl rfl HT_.out ?_
          refine pw_ 11 21 (b_ 12 13) rfl rfl HT_.out ?_
          refine pw_ 12 22 (b_ 13 12) rfl rfl HT_.out ?_
          refine pw_ 13 23 (b_ 14 11) rfl rfl HT_.out ?_
          refine pw_ 14 24 (b_ 15 10) rfl rfl HT_.out ?_
          refine pw_ 16 26 #[t_,t_,t_,t_,t_,t_,t_,t_,t_,t_,t_,t_,t_,t_,t_,f_,t_,f_,f_,f_,f_,f_,f_,f_,f_] rfl rfl HT_.out ?_
          refine pw_ 17 27 #[t_,t_,t_,t_,t_,t_,t_,t_,t_,t_,t_,t_,t_,t_,t_,f_,t_,t_,f_,f_,f_,f_,f_,f_,f_] rfl rfl HT_.out ?_
          refine pw_ 18 28 #[t_,t_,t_,t_,t_,t_,t_,t_,t_,t_,t_,t_,t_,t_,t_,f_,t_,t_,t_,f_,f_,f_,f_,f_,f_] rfl rfl HT_.out ?_
          refine pw_ 19 29 #[t_,t_,t_,t_,t_,t_,t_,t_,t_,t_,t_,t_,t_,t_,t_,f_,t_,t_,t_,t_,f_,f_,f_,f_,f_] rfl rfl HT_.out ?_
          refine take_ (i := 15) (N := some 25) (v := ?_) (a' := ?_) #[t_,t_,t_,t_,t_,t_,t_,t_,t_,t_,t_,t_,t_,t_,t_,t_,t_,t_,t_,t_,f_,f_,f_,f_,f_] rfl rfl (take_ofW HT_.out HW_.out (by kernel_rfl)) (fun _ _ _ h => h) (Or.inl ⟨by rfl, ?_⟩) hHeld ?_ ?_
          rotate_left
          ·
           rintro w' ⟨s0, s1, s2, s3, s4, s5⟩
           go_simp
           with_reducible rfl
          rotate_left
          ·
           simp only [fr_]
           rfl
          refine take_ (i := 20) (N := some 30) (v := ?_) (a' := ?_) #[t_,t_,t_,t_,t_,t_,t_,t_,t_,t_,t_,t_,t_,t_,t_,t_,t_,t_,t_,t_,t_,f_,f_,f_,f_] rfl rfl (take_ofW HT_.out HW_.out (by kernel_rfl)) (fun _ _ _ h => h) (Or.inl ⟨by rfl, ?_⟩) hHeld ?_ ?_
          rotate_left
          ·
           rintro w' ⟨s0, s1, s2, s3, s4, s5⟩
           go_simp
           with_reducible rfl
          rotate_left
          ·
           simp only [fr_]
           rfl
          refine one_ (i := 21) (N := some 31) #[t_,t_,t_,t_,t_,t_,t_,t_,t_,t_,t_,t_,t_,t_,t_,t_,t_,t_,t_,t_,t_,t_,f_,f_,f_] rfl rfl (one_of HT_.out (by kernel_rfl)) (by decide) (fun K hK => ?_)
          refine goes_ Try.func127 (by kernel_rfl) rfl #[.string ((rd_T88 l0 (ji7)).f0), .string ((rd_T88 l0 x3_1).f0)] (by rfl) rfl rfl (by (try simp only [mp_]); first | done | (simp only [hji7]; rfl) | rfl | (simp only [List.length_drop, List.length_take]; rfl)) ?_
          with_reducible refine (spec_Less.calls ((rd_T88 l0 (ji7)).f0) ((rd_T88 l0 x3_1).f0) true _ A10.out).mono ?_
          rintro e w' ⟨rfl, ⟨nd, rfl⟩⟩
          refine ⟨_, rfl, ?_⟩
          refine hK.out _ _ ⟨((HB.out.cell (World.block_lt_of_cell? w _ hw120_0)).trans hw120_0), ((HB.out.cell (World.block_lt_of_cell? w _ hw120_1)).trans hw120_1), ((HB.out.cell (World.block_lt_of_cell? w _ hw122_0)).trans hw122_0), ((HB.out.cell (World.block_lt_of_cell? w _ hw122_1)).trans hw122_1), ((HB.out.cell (World.block_lt_of_cell? w _ hw123_0)).trans hw123_0), ((HB.out.cell (World.block_lt_of_cell? w _ hw123_1)).trans hw123_1)⟩ (fun hHeld => ?_)
          clear hK K
          refine norm_ (a' := ?_) ?_ ?_
          rotate_left
          ·
           show Act.put _ (some 31) _ = _
           simp only [fr_]
           rfl
          refine pw_ 22 32 (b_ 23 2) rfl rfl HT_.out ?_
          refine pw_ 23 33 (b_ 24 1) rfl rfl HT_.out ?_
          refine pw_ 24 34 (b_ 25 0) rfl rfl HT_.out ?_
          refine done_ (done_of HT_.out (by kernel_rfl)) ?_
          try go_wp2
          go_roundg k1
          case measure => have := HK1.out; omega
          case rel => exact ⟨(wrap64 (x3_1 + 1)), (by first | rfl | (simp; done) | (simp [*]; done)), H', ⟨by have := HK1.out; omega⟩, ⟨by exact hs_ HB.out⟩⟩
         replace c11 := Bool.eq_false_iff.mpr c11
         subst c11
         rw [if_neg (show ¬ (false = true) by decide)] at H
         obtain rfl := Option.some.inj H
         try go_wp2
         replace HB := Aside0.mk (bd_ HB.out)
         have p120 : 0 ≤ (x3_1 : Int) := of_decide_eq_true (by with_reducible assumption)
         have q120 : x3_1 < (l0.length : Int) := of_decide_eq_true (by with_reducible assumption)
         obtain ⟨ad120, e120, hx120_0, hx120_1⟩ := at_T88 HR0.out x3_1 p120 q120
         have hw120_1 := hx120_1
         have hw120_0 := hx120_0
         cases e120
         replace hx120_0 := cl_ HB.out hx120_0
         replace hx120_1 := cl_ HB.out hx120_1
         replace p120 := eq_true p120
         replace q120 := eq_true q120
         have p122 : 0 ≤ ((ji7) : Int) := of_decide_eq_true (by with_reducible assumption)
         have q122 : (ji7) < (l0.length : Int) := of_decide_eq_true (by with_reducible assumption)
         obtain ⟨ad122, e122, hx122_0, hx122_1⟩ := at_T88 HR0.out (ji7) p122 q122
         have hw122_1 := hx122_1
         have hw122_0 := hx122_0
         obtain rfl : ad120 = ad122 := (by injection e122)
         replace hx122_0 := cl_ HB.out hx122_0
         replace hx122_1 := cl_ HB.out hx122_1
         replace p122 := eq_true p122
         replace q122 := eq_true q122
         have p123 : 0 ≤ (x3_1 : Int) := of_decide_eq_true (by with_reducible assumption)
         have q123 : x3_1 < (l0.length : Int) := of_decide_eq_true (by with_reducible assumption)
         obtain ⟨ad123, e123, hx123_0, hx123_1⟩ := at_T88 HR0.out x3_1 p123 q123
         have hw123_1 := hx123_1
         have hw123_0 := hx123_0
         obtain rfl : ad120 = ad123 := (by injection e123)
         replace hx123_0 := cl_ HB.out hx123_0
         replace hx123_1 := cl_ HB.out hx123_1
         replace p123 := eq_true p123
         replace q123 := eq_true q123
         refine start_ (n := 25) (S := fun w' => w'.cell? (ad120.add ((x3_1).toNat * 2)) = some (.string ((rd_T88 l0 x3_1).f0)) ∧ w'.cell? ⟨(ad120.add ((x3_1).toNat * 2)).block, (ad120.add ((x3_1).toNat * 2)).off + 1, none⟩ = some (.string ((rd_T88 l0 x3_1).f1)) ∧ w'.cell? (ad120.add (((ji7)).toNat * 2)) = some (.string ((rd_T88 l0 (ji7)).f0)) ∧ w'.cell? ⟨(ad120.add (((ji7)).toNat * 2)).block, (ad120.add (((ji7)).toNat * 2)).off + 1, none⟩ = some (.string ((rd_T88 l0 (ji7)).f1)) ∧ w'.cell? (ad120.add ((x3_1).toNat * 2)) = some (.string ((rd_T88 l0 x3_1).f0)) ∧ w'.cell? ⟨(ad120.add ((x3_1).toNat * 2)).block, (ad120.add ((x3_1).toNat * 2)).off + 1, none⟩ = some (.string ((rd_T88 l0 x3_1).f1))) (ds := []) #[f_,f_,f_,f_,f_,f_,f_,f_,f_,f_,f_,f_,f_,f_,f_,f_,f_,f_,f_,f_,f_,f_,f_,f_,f_] (by kernel_rfl) rfl rfl ⟨((HB.out.cell (World.block_lt_of_cell? w _ hw120_0)).trans hw120_0), ((HB.out.cell (World.block_lt_of_cell? w _ hw120_1)).trans hw120_1), ((HB.out.cell (World.block_lt_of_cell? w _ hw122_0)).trans hw122_0), ((HB.out.cell (World.block_lt_of_cell? w _ hw122_1)).trans hw122_1), ((HB.out.cell (World.block_lt_of_cell? w _ hw123_0)).trans hw123_0), ((HB.out.cell (World.block_lt_of_cell? w _ hw123_1)).trans hw123_1)⟩ (fun hHeld => ?_); refine with_tabW spec_SetOk.tab4 spec_SetOk.bits4 (fun HT_ HW_ => ?_)
         generalize wr.drew = w14 at HB hx120_0 hx120_1 hx122_0 hx122_1 hx123_0 hx123_1 hHeld ⊢
         refine pw_ 0 10 (b_ 1 24) rfl rfl HT_.out ?_
         refine pw_ 1 11 (b_ 2 23) rfl rfl HT_.out ?_
         refine pw_ 2 12 (b_ 3 22) rfl rfl HT_.out ?_
         refine take_ (i := 3) (N := some 13) (v := ?_) (a' := ?_) #[t_,t_,t_,t_,f_,f_,f_,f_,f_,f_,f_,f_,f_,f_,f_,f_,f_,f_,f_,f_,f_,f_,f_,f_,f_] rfl rfl (take_ofW HT_.out HW_.out (by kernel_rfl)) (fun _ _ _ h => h) (Or.inl ⟨by rfl, ?_⟩) hHeld ?_ ?_
         rotate_left
         ·
          rintro w' ⟨s0, s1, s2, s3, s4, s5⟩
          go_simp
          with_reducible rfl
         rotate_left
         ·
          simp only [fr_]
          rfl
         refine one_ (i := 4) (N := some 14) #[t_,t_,t_,t_,t_,f_,f_,f_,f_,f_,f_,f_,f_,f_,f_,f_,f_,f_,f_,f_,f_,f_,f_,f_,f_] rfl rfl (one_of HT_.out (by kernel_rfl)) (by decide) (fun K hK => ?_)
         refine gs_ Try.func132 #[.agg #[.string ((rd_T88 l0 x3_1).f0), .string ((rd_T88 l0 x3_1).f1)]] ?_
         with_reducible refine (spec_LabelOk.calls k1 ((rd_T88 l0 x3_1).f0) ((rd_T88 l0 x3_1).f1) true _ A4.out).mono ?_
         rintro e w15 ⟨rfl, hb⟩
         refine ⟨_, rfl, ?_⟩
         replace HB := st_ HB hb
         (try clear hb)
         (try clear hk)
         refine hK.out _ _ ⟨((HB.out.cell (World.block_lt_of_cell? w _ hw120_0)).trans hw120_0), ((HB.out.cell (World.block_lt_of_cell? w _ hw120_1)).trans hw120_1), ((HB.out.cell (World.block_lt_of_cell? w _ hw122_0)).trans hw122_0), ((HB.out.cell (World.block_lt_of_cell? w _ hw122_1)).trans hw122_1), ((HB.out.cell (World.block_lt_of_cell? w _ hw123_0)).trans hw123_0), ((HB.out.cell (World.block_lt_of_cell? w _ hw123_1)).trans hw123_1)⟩ (fun hHeld => ?_)
         clear hK K
         refine norm_ (a' := ?_) ?_ ?_
         rotate_left
         ·
          show Act.put _ (some 14) _ = _
          simp only [fr_]
          rfl
         refine pw_ 5 15 (b_ 6 19) rfl rfl HT_.out ?_
         refine pw_ 6 16 (b_ 7 18) rfl rfl HT_.out ?_
         refine pw_ 7 17 (b_ 8 17) rfl rfl HT_.out ?_
         refine pw_ 8 18 (b_ 9 16) rfl rfl HT_.out ?_
         refine pw_ 9 19 (b_ 10 15) rfl rfl HT_.out ?_
         refine pw_ 10 20 (b_ 11 14) rfl rfl HT_.out ?_
         refine pw_ 11 21 (b_ 12 13) rfl rfl HT_.out ?_
         refine pw_ 12 22 (b_ 13 12) rfl rfl HT_.out ?_
         refine pw_ 13 23 (b_ 14 11) rfl rfl HT_.out ?_
         refine pw_ 14 24 (b_ 15 10) rfl rfl HT_.out ?_
         refine pw_ 16 26 #[t_,t_,t_,t_,t_,t_,t_,t_,t_,t_,t_,t_,t_,t_,t_,f_,t_,f_,f_,f_,f_,f_,f_,f_,f_] rfl rfl HT_.out ?_
         refine pw_ 17 27 #[t_,t_,t_,t_,t_,t_,t_,t_,t_,t_,t_,t_,t_,t_,t_,f_,t_,t_,f_,f_,f_,f_,f_,f_,f_] rfl rfl HT_.out ?_
         refine pw_ 18 28 #[t_,t_,t_,t_,t_,t_,t_,t_,t_,t_,t_,t_,t_,t_,t_,f_,t_,t_,t_,f_,f_,f_,f_,f_,f_] rfl rfl HT_.out ?_
         refine pw_ 19 29 #[t_,t_,t_,t_,t_,t_,t_,t_,t_,t_,t_,t_,t_,t_,t_,f_,t_,t_,t_,t_,f_,f_,f_,f_,f_] rfl rfl HT_.out ?_
         refine take_ (i := 15) (N := some 25) (v := ?_) (a' := ?_) #[t_,t_,t_,t_,t_,t_,t_,t_,t_,t_,t_,t_,t_,t_,t_,t_,t_,t_,t_,t_,f_,f_,f_,f_,f_] rfl rfl (take_ofW HT_.out HW_.out (by kernel_rfl)) (fun _ _ _ h => h) (Or.inl ⟨by rfl, ?_⟩) hHeld ?_ ?_
         rotate_left
         ·
          rintro w' ⟨s0, s1, s2, s3, s4, s5⟩
          go_simp
          with_reducible rfl
         rotate_left
         ·
          simp only [fr_]
          rfl
         refine take_ (i := 20) (N := some 30) (v := ?_) (a' := ?_) #[t_,t_,t_,t_,t_,t_,t_,t_,t_,t_,t_,t_,t_,t_,t_,t_,t_,t_,t_,t_,t_,f_,f_,f_,f_] rfl rfl (take_ofW HT_.out HW_.out (by kernel_rfl)) (fun _ _ _ h => h) (Or.inl ⟨by rfl, ?_⟩) hHeld ?_ ?_
         rotate_left
         ·
          rintro w' ⟨s0, s1, s2, s3, s4, s5⟩
          go_simp
          with_reducible rfl
         rotate_left
         ·
          simp only [fr_]
          rfl
         refine one_ (i := 21) (N := some 31) #[t_,t_,t_,t_,t_,t_,t_,t_,t_,t_,t_,t_,t_,t_,t_,t_,t_,t_,t_,t_,t_,t_,f_,f_,f_] rfl rfl (one_of HT_.out (by kernel_rfl)) (by decide) (fun K hK => ?_)
         refine goes_ Try.func127 (by kernel_rfl) rfl #[.string ((rd_T88 l0 (ji7)).f0), .string ((rd_T88 l0 x3_1).f0)] (by rfl) rfl rfl (by (try simp only [mp_]); first | done | (simp only [hji7]; rfl) | rfl | (simp only [List.length_drop, List.length_take]; rfl)) ?_
         with_reducible refine (spec_Less.calls ((rd_T88 l0 (ji7)).f0) ((rd_T88 l0 x3_1).f0) false _ A10.out).mono ?_
         rintro e w' ⟨rfl, ⟨nd, rfl⟩⟩
         refine ⟨_, rfl, ?_⟩
         refine hK.out _ _ ⟨((HB.out.cell (World.block_lt_of_cell? w _ hw120_0)).trans hw120_0), ((HB.out.cell (World.block_lt_of_cell? w _ hw120_1)).trans hw120_1), ((HB.out.cell (World.block_lt_of_cell? w _ hw122_0)).trans hw122_0), ((HB.out.cell (World.block_lt_of_cell? w _ hw122_1)).trans hw122_1), ((HB.out.cell (World.block_lt_of_cell? w _ hw123_0)).trans hw123_0), ((HB.out.cell (World.block_lt_of_cell? w _ hw123_1)).trans hw123_1)⟩ (fun hHeld => ?_)
         clear hK K
         refine norm_ (a' := ?_) ?_ ?_
         rotate_left
         ·
          show Act.put _ (some 31) _ = _
          simp only [fr_]
          rfl
         refine pw_ 22 32 (b_ 23 2) rfl rfl HT_.out ?_
         refine pw_ 23 33 (b_ 24 1) rfl rfl HT_.out ?_
         refine pw_ 24 34 (b_ 25 0) rfl rfl HT_.out ?_
         refine done_ (done_of HT_.out (by kernel_rfl)) ?_
         try go_wp2
         go_ret
         exact ⟨by first | rfl | (simp [errW_none, errW_some] <;> rfl) | (simp only [← hji7]; first | rfl | (simp [errW_none, errW_some] <;> rfl)) | (simp [*, errW_none, errW_some] <;> rfl), by exact hs_ HB.out⟩
        rw [if_neg c9] at H
        exact absurd H (by simp)
       rw [if_neg c8] at H
       exact absurd H (by simp)
      rw [if_neg c6] at H
      have c6b0 : decide (0 < x3_1) = false := decide_eq_false c6
      clear c6
      have H' := Aside0.mk H
      clear H
      try go_wp2
      replace HB := Aside0.mk (bd_ HB.out)
      have p120 : 0 ≤ (x3_1 : Int) := of_decide_eq_true (by with_reducible assumption)
      have q120 : x3_1 < (l0.length : Int) := of_decide_eq_true (by with_reducible assumption)
      obtain ⟨ad120, e120, hx120_0, hx120_1⟩ := at_T88 HR0.out x3_1 p120 q120
      have hw120_1 := hx120_1
      have hw120_0 := hx120_0
      cases e120
      replace hx120_0 := cl_ HB.out hx120_0
      replace hx120_1 := cl_ HB.out hx120_1
      replace p120 := eq_true p120
      replace q120 := eq_true q120
      refine start_ (n := 25) (S := fun w' => w'.cell? (ad120.add ((x3_1).toNat * 2)) = some (.string ((rd_T88 l0 x3_1).f0)) ∧ w'.cell? ⟨(ad120.add ((x3_1).toNat * 2)).block, (ad120.add ((x3_1).toNat * 2)).off + 1, none⟩ = some (.string ((rd_T88 l0 x3_1).f1))) (ds := []) #[f_,f_,f_,f_,f_,f_,f_,f_,f_,f_,f_,f_,f_,f_,f_,f_,f_,f_,f_,f_,f_,f_,f_,f_,f_] (by kernel_rfl) rfl rfl ⟨((HB.out.cell (World.block_lt_of_cell? w _ hw120_0)).trans hw120_0), ((HB.out.cell (World.block_lt_of_cell? w _ hw120_1)).trans hw120_1)⟩ (fun hHeld => ?_); refine with_tabW spec_SetOk.tab4 spec_SetOk.bits4 (fun HT_ HW_ => ?_)
      generalize wr.drew = w16 at HB hx120_0 hx120_1 hHeld ⊢
      refine pw_ 0 10 (b_ 1 24) rfl rfl HT_.out ?_
      refine pw_ 1 11 (b_ 2 23) rfl rfl HT_.out ?_
      refine pw_ 2 12 (b_ 3 22) rfl rfl HT_.out ?_
      refine take_ (i := 3) (N := some 13) (v := ?_) (a' := ?_) #[t_,t_,t_,t_,f_,f_,f_,f_,f_,f_,f_,f_,f_,f_,f_,f_,f_,f_,f_,f_,f_,f_,f_,f_,f_] rfl rfl (take_ofW HT_.out HW_.out (by kernel_rfl)) (fun _ _ _ h => h) (Or.inl ⟨by rfl, ?_⟩) hHeld ?_ ?_
      rotate_left
      ·
       rintro w' ⟨s0, s1⟩
       go_simp
       with_reducible rfl
      rotate_left
      ·
       simp only [fr_]
       rfl
      refine one_ (i := 4) (N := some 14) #[t_,t_,t_,t_,t_,f_,f_,f_,f_,f_,f_,f_,f_,f_,f_,f_,f_,f_,f_,f_,f_,f_,f_,f_,f_] rfl rfl (one_of HT_.out (by kernel_rfl)) (by decide) (fun K hK => ?_)
      refine gs_ Try.func132 #[.agg #[.string ((rd_T88 l0 x3_1).f0), .string ((rd_T88 l0 x3_1).f1)]] ?_
      with_reducible refine (spec_LabelOk.calls k1 ((rd_T88 l0 x3_1).f0) ((rd_T88 l0 x3_1).f1) true _ A4.out).mono ?_
      rintro e w17 ⟨rfl, hb⟩
      refine ⟨_, rfl, ?_⟩
      replace HB := st_ HB hb
      (try clear hb)
      (try clear hk)
      refine hK.out _ _ ⟨((HB.out.cell (World.block_lt_of_cell? w _ hw120_0)).trans hw120_0), ((HB.out.cell (World.block_lt_of_cell? w _ hw120_1)).trans hw120_1)⟩ (fun hHeld => ?_)
      clear hK K
      refine norm_ (a' := ?_) ?_ ?_
      rotate_left
      ·
       show Act.put _ (some 14) _ = _
       simp only [fr_]
       rfl
      refine pw_ 5 15 (b_ 6 19) rfl rfl HT_.out ?_
      refine pw_ 6 16 (b_ 7 18) rfl rfl HT_.out ?_
      refine pw_ 7 17 (b_ 8 17) rfl rfl HT_.out ?_
      refine pw_ 8 18 (b_ 9 16) rfl rfl HT_.out ?_
      refine pw_ 9 19 (b_ 10 15) rfl rfl HT_.out ?_
      refine pv_ 10 20 ?_ (b_ 11 14) rfl rfl HT_.out ?_ ?_; rotate_left; simp only [fr_]; rfl
      refine pv_ 11 21 ?_ (b_ 12 13) rfl rfl HT_.out ?_ ?_; rotate_left; simp only [fr_]; rfl
      refine pv_ 12 22 ?_ (b_ 13 12) rfl rfl HT_.out ?_ ?_; rotate_left; simp only [fr_]; rfl
      refine pv_ 13 23 ?_ (b_ 14 11) rfl rfl HT_.out ?_ ?_; rotate_left; simp only [fr_]; rfl
      refine pv_ 14 24 ?_ (b_ 15 10) rfl rfl HT_.out ?_ ?_; rotate_left; simp only [fr_]; rfl
      refine pv_ 15 25 ?_ (b_ 16 9) rfl rfl HT_.out ?_ ?_; rotate_left; simp only [fr_]; rfl
      refine pv_ 16 26 ?_ (b_ 17 8) rfl rfl HT_.out ?_ ?_; rotate_left; simp only [fr_]; rfl
      refine pv_ 17 27 ?_ (b_ 18 7) rfl rfl HT_.out ?_ ?_; rotate_left; simp only [fr_]; rfl
      refine pv_ 18 28 ?_ (b_ 19 6) rfl rfl HT_.out ?_ ?_; rotate_left; simp only [fr_]; rfl
      refine pv_ 19 29 ?_ (b_ 20 5) rfl rfl HT_.out ?_ ?_; rotate_left; simp only [fr_]; rfl
      refine pv_ 20 30 ?_ (b_ 21 4) rfl rfl HT_.out ?_ ?_; rotate_left; simp only [fr_]; rfl
      refine pv_ 21 31 ?_ (b_ 22 3) rfl rfl HT_.out ?_ ?_; rotate_left; simp only [fr_]; rfl
      refine pv_ 22 32 ?_ (b_ 23 2) rfl rfl HT_.out ?_ ?_; rotate_left; simp only [fr_]; rfl
      refine pw_ 23 33 (b_ 24 1) rfl rfl HT_.out ?_
      refine pw_ 24 34 (b_ 25 0) rfl rfl HT_.out ?_
      refine done_ (done_of HT_.out (by kernel_rfl)) ?_
      try go_wp2
      go_roundg k1
      case measure => have := HK1.out; omega
      case rel => exact ⟨(wrap64 (x3_1 + 1)), (by first | rfl | (simp; done) | (simp [*]; done)), H', ⟨by have := HK1.out; omega⟩, ⟨by exact hs_ HB.out⟩⟩
     replace c5 := Bool.eq_false_iff.mpr c5
     subst c5
     rw [if_neg (show ¬ (false = true) by decide)] at H
     obtain rfl := Option.some.inj H
     try go_wp2
     replace HB := Aside0.mk (bd_ HB.out)
     have p120 : 0 ≤ (x3_1 : Int) := of_decide_eq_true (by with_reducible assumption)
     have q120 : x3_1 < (l0.length : Int) := of_decide_eq_true (by with_reducible assumption)
     obtain ⟨ad120, e120, hx120_0, hx120_1⟩ := at_T88 HR0.out x3_1 p120 q120
     have hw120_1 := hx120_1
     have hw120_0 := hx120_0
     cases e120
     replace hx120_0 := cl_ HB.out hx120_0
     replace hx120_1 := cl_ HB.out hx120_1
     replace p120 := eq_true p120
     replace q120 := eq_true q120
     refine start_ (n := 25) (S := fun w' => w'.cell? (ad120.add ((x3_1).toNat * 2)) = some (.string ((rd_T88 l0 x3_1).f0)) ∧ w'.cell? ⟨(ad120.add ((x3_1).toNat * 2)).block, (ad120.add ((x3_1).toNat * 2)).off + 1, none⟩ = some (.string ((rd_T88 l0 x3_1).f1))) (ds := []) #[f_,f_,f_,f_,f_,f_,f_,f_,f_,f_,f_,f_,f_,f_,f_,f_,f_,f_,f_,f_,f_,f_,f_,f_,f_] (by kernel_rfl) rfl rfl ⟨((HB.out.cell (World.block_lt_of_cell? w _ hw120_0)).trans hw120_0), ((HB.out.cell (World.block_lt_of_cell? w _ hw120_1)).trans hw120_1)⟩ (fun hHeld => ?_); refine with_tabW spec_SetOk.tab4 spec_SetOk.bits4 (fun HT_ HW_ => ?_)
     generalize wr.drew = w18 at HB hx120_0 hx120_1 hHeld ⊢
     refine pw_ 0 10 (b_ 1 24) rfl rfl HT_.out ?_
     refine pw_ 1 11 (b_ 2 23) rfl rfl HT_.out ?_
     refine pw_ 2 12 (b_ 3 22) rfl rfl HT_.out ?_
     refine take_ (i := 3) (N := some 13) (v := ?_) (a' := ?_) #[t_,t_,t_,t_,f_,f_,f_,f_,f_,f_,f_,f_,f_,f_,f_,f_,f_,f_,f_,f_,f_,f_,f_,f_,f_] rfl rfl (take_ofW HT_.out HW_.out (by kernel_rfl)) (fun _ _ _ h => h) (Or.inl ⟨by rfl, ?_⟩) hHeld ?_ ?_
     rotate_left
     ·
      rintro w' ⟨s0, s1⟩
      go_simp
      with_reducible rfl
     rotate_left
     ·
      simp only [fr_]
      rfl
     refine one_ (i := 4) (N := some 14) #[t_,t_,t_,t_,t_,f_,f_,f_,f_,f_,f_,f_,f_,f_,f_,f_,f_,f_,f_,f_,f_,f_,f_,f_,f_] rfl rfl (one_of HT_.out (by kernel_rfl)) (by decide) (fun K hK => ?_)
     refine gs_ Try.func132 #[.agg #[.string ((rd_T88 l0 x3_1).f0), .string ((rd_T88 l0 x3_1).f1)]] ?_
     with_reducible refine (spec_LabelOk.calls k1 ((rd_T88 l0 x3_1).f0) ((rd_T88 l0 x3_1).f1) false _ A4.out).mono ?_
     rintro e w19 ⟨rfl, hb⟩
     refine ⟨_, rfl, ?_⟩
     replace HB := st_ HB hb
     (try clear hb)
     (try clear hk)
     refine hK.out _ _ ⟨((HB.out.cell (World.block_lt_of_cell? w _ hw120_0)).trans hw120_0), ((HB.out.cell (World.block_lt_of_cell? w _ hw120_1)).trans hw120_1)⟩ (fun hHeld => ?_)
     clear hK K
     refine norm_ (a' := ?_) ?_ ?_
     rotate_left
     ·
      show Act.put _ (some 14) _ = _
      simp only [fr_]
      rfl
     refine pw_ 5 15 (b_ 6 19) rfl rfl HT_.out ?_
     refine pw_ 6 16 (b_ 7 18) rfl rfl HT_.out ?_
     refine pv_ 7 17 ?_ (b_ 8 17) rfl rfl HT_.out ?_ ?_; rotate_left; simp only [fr_]; rfl
     refine pv_ 8 18 ?_ (b_ 9 16) rfl rfl HT_.out ?_ ?_; rotate_left; simp only [fr_]; rfl
     refine pv_ 9 19 ?_ (b_ 10 15) rfl rfl HT_.out ?_ ?_; rotate_left; simp only [fr_]; rfl
     refine pv_ 10 20 ?_ (b_ 11 14) rfl rfl HT_.out ?_ ?_; rotate_left; simp only [fr_]; rfl
     refine pv_ 11 21 ?_ (b_ 12 13) rfl rfl HT_.out ?_ ?_; rotate_left; simp only [fr_]; rfl
     refine pv_ 12 22 ?_ (b_ 13 12) rfl rfl HT_.out ?_ ?_; rotate_left; simp only [fr_]; rfl
     refine pv_ 13 23 ?_ (b_ 14 11) rfl rfl HT_.out ?_ ?_; rotate_left; simp only [fr_]; rfl
     refine pv_ 14 24 ?_ (b_ 15 10) rfl rfl HT_.out ?_ ?_; rotate_left; simp only [fr_]; rfl
     refine pv_ 15 25 ?_ (b_ 16 9) rfl rfl HT_.out ?_ ?_; rotate_left; simp only [fr_]; rfl
     refine pv_ 16 26 ?_ (b_ 17 8) rfl rfl HT_.out ?_ ?_; rotate_left; simp only [fr_]; rfl
     refine pv_ 17 27 ?_ (b_ 18 7) rfl rfl HT_.out ?_ ?_; rotate_left; simp only [fr_]; rfl
     refine pv_ 18 28 ?_ (b_ 19 6) rfl rfl HT_.out ?_ ?_; rotate_left; simp only [fr_]; rfl
     refine pv_ 19 29 ?_ (b_ 20 5) rfl rfl HT_.out ?_ ?_; rotate_left; simp only [fr_]; rfl
     refine pv_ 20 30 ?_ (b_ 21 4) rfl rfl HT_.out ?_ ?_; rotate_left; simp only [fr_]; rfl
     refine pv_ 21 31 ?_ (b_ 22 3) rfl rfl HT_.out ?_ ?_; rotate_left; simp only [fr_]; rfl
     refine pv_ 22 32 ?_ (b_ 23 2) rfl rfl HT_.out ?_ ?_; rotate_left; simp only [fr_]; rfl
     refine pv_ 23 33 ?_ (b_ 24 1) rfl rfl HT_.out ?_ ?_; rotate_left; simp only [fr_]; rfl
     refine pw_ 24 34 (b_ 25 0) rfl rfl HT_.out ?_
     refine done_ (done_of HT_.out (by kernel_rfl)) ?_
     try go_wp2
     go_ret
     exact an_ (by exact hs_ HB.out)
    rw [if_neg c3] at H
    exact absurd H (by simp)
   rw [if_neg c2] at H
   have c2b0 : decide (x3_1 < (l0.length : Int)) = false := decide_eq_false c2
   clear c2
   obtain rfl := Option.some.inj H
   go_wp2
   go_ret
   exact an_ (by exact hs_ HB.out)
def spec_SetText.l0 : Nat → List (S88) → ByteArray → Int → Option (ByteArray)
 | 0, _, _, _ => none
 | k + 1, x0, x3, x4 => if x4 < (x0.length : Int) then (if x4 > 0 then (if x3.size + 2 ≤ 9223372036854775807 then (if 0 ≤ x4 then (if (x3 ++ (⟨#[44, 32]⟩ : ByteArray)).size + ((rd_T88 x0 x4).f0).size ≤ 9223372036854775807 then (if ((x3 ++ (⟨#[44, 32]⟩ : ByteArray)) ++ ((rd_T88 x0 x4).f0)).size + 2 ≤ 9223372036854775807 then (if (((x3 ++ (⟨#[44, 32]⟩ : ByteArray)) ++ ((rd_T88 x0 x4).f0)) ++ (⟨#[61, 34]⟩ : ByteArray)).size + ((rd_T88 x0 x4).f1).size ≤ 9223372036854775807 then (if ((((x3 ++ (⟨#[44, 32]⟩ : ByteArray)) ++ ((rd_T88 x0 x4).f0)) ++ (⟨#[61, 34]⟩ : ByteArray)) ++ ((rd_T88 x0 x4).f1)).size + 1 ≤ 9223372036854775807 then (spec_SetText.l0 k x0 (((((x3 ++ (⟨#[44, 32]⟩ : ByteArray)) ++ ((rd_T88 x0 x4).f0)) ++ (⟨#[61, 34]⟩ : ByteArray)) ++ ((rd_T88 x0 x4).f1)) ++ (⟨#[34]⟩ : ByteArray)) (wrap64 (x4 + 1))) else (none)) else (none)) else (none)) else (none)) else (none)) else (none)) else (if 0 ≤ x4 then (if x3.size + ((rd_T88 x0 x4).f0).size ≤ 9223372036854775807 then (if (x3 ++ ((rd_T88 x0 x4).f0)).size + 2 ≤ 9223372036854775807 then (if ((x3 ++ ((rd_T88 x0 x4).f0)) ++ (⟨#[61, 34]⟩ : ByteArray)).size + ((rd_T88 x0 x4).f1).size ≤ 9223372036854775807 then (if (((x3 ++ ((rd_T88 x0 x4).f0)) ++ (⟨#[61, 34]⟩ : ByteArray)) ++ ((rd_T88 x0 x4).f1)).size + 1 ≤ 9223372036854775807 then (spec_SetText.l0 k x0 ((((x3 ++ ((rd_T88 x0 x4).f0)) ++ (⟨#[61, 34]⟩ : ByteArray)) ++ ((rd_T88 x0 x4).f1)) ++ (⟨#[34]⟩ : ByteArray)) (wrap64 (x4 + 1))) else (none)) else (none)) else (none)) else (none)) else (none))) else (if x3.size + 1 ≤ 9223372036854775807 then (some (x3 ++ (⟨#[125]⟩ : ByteArray))) else (none))
def spec_SetText.f (k : Nat) (l0 : List (S88)) : Option (ByteArray) := (spec_SetOk.f k l0).bind fun t125 => (if t125 = true then (spec_SetText.l0 k l0 (⟨#[123]⟩ : ByteArray) 0) else (some (⟨#[]⟩ : ByteArray)))
theorem spec_SetText.mono_l : ∀ k, (∀ y0 y1 y2, LeO (spec_SetText.l0 k y0 y1 y2) (spec_SetText.l0 (k + 1) y0 y1 y2))
 | 0 => fun _ _ _ r h => by simp [spec_SetText.l0] at h
 | k + 1 => by
  have ih0 := spec_SetText.mono_l k
  intro y0 y1 y2
  unfold spec_SetText.l0
  repeat' first
  | (with_reducible exact ih0 _ _ _)
  | (with_reducible exact spec_SetOk.mono _ _)
  | (with_reducible exact LeO.refl _)
  | (with_reducible exact LeO.none _)
  | (with_reducible refine LeO.ite ?_ ?_)
  | (with_reducible refine LeO.bind ?_ (fun _ => ?_))
  | exact ih0 _ _ _
  | exact spec_SetOk.mono _ _
theorem spec_SetText.mono : ∀ a0 k, LeO (spec_SetText.f k a0) (spec_SetText.f (k + 1) a0) := by
 intro a0 k
 have ih0 := spec_SetText.mono_l k
 unfold spec_SetText.f
 repeat' first | (with_reducible first | exact ih0 _ _ _ | exact spec_SetOk.mono _ _ | exact LeO.refl _ | exact LeO.none _ | refine LeO.ite ?_ ?_ | refine LeO.bind ?_ (fun _ => ?_)) | exact ih0 _ _ _ | exact spec_SetOk.mono _ _
theorem spec_SetText.calls (k : Nat) (A0 : Option Addr) (c0 : Nat) (l0 : List (S88)) (r : ByteArray) (w : World) (hr0 : Kd.C k88 w A0 l0.length l0) (hc0 : l0.length ≤ c0) (h : spec_SetText.f k l0 = some r) :
  Calls Try.prog 96 #[.slice A0 l0.length c0] w fun e w' => e = .returned (.string r) ∧ Below w.heap.size w w' := by
 have HR0 := Aside0.mk hr0
 have HC0 := Aside0.mk hc0
 clear hr0 hc0
 have HB := Aside0.mk (Below.refl w.heap.size w)
 have H : ((spec_SetOk.f k l0).bind fun t125 => (if t125 = true then (spec_SetText.l0 k l0 (⟨#[123]⟩ : ByteArray) 0) else (some (⟨#[]⟩ : ByteArray)))) = some r := h
 clear h
 replace H := Option.bind_eq_some_iff.mp H
 obtain ⟨t125, A20, H⟩ := H
 have A2 := Aside0.mk A20
 clear A20
 by_cases c3 : t125 = true
 ·
  subst c3
  rw [if_pos rfl] at H
  have H' := Aside0.mk H
  clear H
  go_enter Try.func96, Try.ntmps96
  go_wp2_with (first | (go_at_call 118; (with_reducible refine (spec_SetOk.calls k _ _ l0 true _ ?side1 ?side2 A2.out).mono ?_); (case side1 => exact cp_ (HR0.out)); (case side2 => exact HC0.out); rintro e w4 ⟨rfl, hb⟩; replace HB := st_ HB hb; (try clear hb); (try clear hk)))
  repeat (go_quiet (first | (go_at_call 118; (with_reducible refine (spec_SetOk.calls k _ _ l0 true _ ?side1 ?side2 A2.out).mono ?_); (case side1 => exact cp_ (HR0.out)); (case side2 => exact HC0.out); rintro e w4 ⟨rfl, hb⟩; replace HB := st_ HB hb; (try clear hb); (try clear hk))); try go_wp2_with (first | (go_at_call 118; (with_reducible refine (spec_SetOk.calls k _ _ l0 true _ ?side1 ?side2 A2.out).mono ?_); (case side1 => exact cp_ (HR0.out)); (case side2 => exact HC0.out); rintro e w4 ⟨rfl, hb⟩; replace HB := st_ HB hb; (try clear hb); (try clear hk))))
  go_loopg [3, 4] k (fun kq v3 v4 w' => ∃ (x3_1 : ByteArray) (x4_1 : Int), v3 = .string x3_1 ∧ v4 = .int .i64 x4_1 ∧ Aside0 (spec_SetText.l0 kq l0 x3_1 x4_1 = some r) ∧ Aside0 (kq ≤ k) ∧ Aside0 (Below w.heap.size w w'))
  case atStart => exact ⟨((⟨#[123]⟩ : ByteArray)), (0), (by first | rfl | (simp; done) | (simp [*]; done)), (by first | rfl | (simp; done) | (simp [*]; done)), H', ⟨Nat.le_refl _⟩, ⟨by exact hs_ HB.out⟩⟩
  case round =>
   clear H'
   try clear p2
   try clear c3
   obtain ⟨x3_1, x4_1, rfl, rfl, HA, HK1, HB⟩ := hrel
   cases gk with
   | zero => exact absurd HA.out (by simp [spec_SetText.l0])
   | succ k1 =>
    have H := HA.out
    clear HA
    simp only [spec_SetText.l0] at H
    by_cases c5 : x4_1 < (l0.length : Int)
    ·
     rw [if_pos c5] at H
     have c5b0 := decide_eq_true c5
     clear c5
     by_cases c6 : x4_1 > 0
     ·
      rw [if_pos c6] at H
      have c6b0 : decide (0 < x4_1) = true := decide_eq_true c6
      clear c6
      by_cases c7 : x3_1.size + 2 ≤ 9223372036854775807
      ·
       rw [if_pos c7] at H
       have c7b0 := eq_true c7
       have c7b1 := decide_eq_true c7
       try have c7b2 : (9223372036854775807 < x3_1.size + 2) = False := eq_false (Nat.not_lt.2 c7)
       by_cases c8 : 0 ≤ x4_1
       ·
        rw [if_pos c8] at H
        have c8b0 := decide_eq_true c8
        clear c8
        by_cases c9 : (x3_1 ++ (⟨#[44, 32]⟩ : ByteArray)).size + ((rd_T88 l0 x4_1).f0).size ≤ 9223372036854775807
        ·
         rw [if_pos c9] at H
         have c9b0 := eq_true c9
         have c9b1 := decide_eq_true c9
         try have c9b2 : (9223372036854775807 < (x3_1 ++ (⟨#[44, 32]⟩ : ByteArray)).size + ((rd_T88 l0 x4_1).f0).size) = False := eq_false (Nat.not_lt.2 c9)
         have c9s := c9
         simp only [ByteArray.size_append, show (⟨#[44, 32]⟩ : ByteArray).size = 2 from rfl] at c9s
         have c9b3 := eq_false (Nat.not_lt.2 c9s)
         have c9b4 := decide_eq_true c9s
         have c9b5 := eq_true c9s
         clear c9s
         by_cases c10 : ((x3_1 ++ (⟨#[44, 32]⟩ : ByteArray)) ++ ((rd_T88 l0 x4_1).f0)).size + 2 ≤ 9223372036854775807
         ·
          rw [if_pos c10] at H
          have c10b0 := eq_true c10
          have c10b1 := decide_eq_true c10
          try have c10b2 : (9223372036854775807 < ((x3_1 ++ (⟨#[44, 32]⟩ : ByteArray)) ++ ((rd_T88 l0 x4_1).f0)).size + 2) = False := eq_false (Nat.not_lt.2 c10)
          have c10s := c10
          simp only [ByteArray.size_append, show (⟨#[44, 32]⟩ : ByteArray).size = 2 from rfl] at c10s
          have c10b3 := eq_false (Nat.not_lt.2 c10s)
          have c10b4 := decide_eq_true c10s
          have c10b5 := eq_true c10s
          clear c10s
          by_cases c11 : (((x3_1 ++ (⟨#[44, 32]⟩ : ByteArray)) ++ ((rd_T88 l0 x4_1).f0)) ++ (⟨#[61, 34]⟩ : ByteArray)).size + ((rd_T88 l0 x4_1).f1).size ≤ 9223372036854775807
          ·
           rw [if_pos c11] at H
           have c11b0 := eq_true c11
           have c11b1 := decide_eq_true c11
           try have c11b2 : (9223372036854775807 < (((x3_1 ++ (⟨#[44, 32]⟩ : ByteArray)) ++ ((rd_T88 l0 x4_1).f0)) ++ (⟨#[61, 34]⟩ : ByteArray)).size + ((rd_T88 l0 x4_1).f1).size) = False := eq_false (Nat.not_lt.2 c11)
           have c11s := c11
           simp only [ByteArray.size_append, show (⟨#[44, 32]⟩ : ByteArray).size = 2 from rfl, show (⟨#[61, 34]⟩ : ByteArray).size = 2 from rfl] at c11s
           have c11b3 := eq_false (Nat.not_lt.2 c11s)
           have c11b4 := decide_eq_true c11s
           have c11b5 := eq_true c11s
           clear c11s
           by_cases c12 : ((((x3_1 ++ (⟨#[44, 32]⟩ : ByteArray)) ++ ((rd_T88 l0 x4_1).f0)) ++ (⟨#[61, 34]⟩ : ByteArray)) ++ ((rd_T88 l0 x4_1).f1)).size + 1 ≤ 9223372036854775807
           ·
            rw [if_pos c12] at H
            have c12b0 := eq_true c12
            have c12b1 := decide_eq_true c12
            try have c12b2 : (9223372036854775807 < ((((x3_1 ++ (⟨#[44, 32]⟩ : ByteArray)) ++ ((rd_T88 l0 x4_1).f0)) ++ (⟨#[61, 34]⟩ : ByteArray)) ++ ((rd_T88 l0 x4_1).f1)).size + 1) = False := eq_false (Nat.not_lt.2 c12)
            have c12s := c12
            simp only [ByteArray.size_append, show (⟨#[44, 32]⟩ : ByteArray).size = 2 from rfl, show (⟨#[61, 34]⟩ : ByteArray).size = 2 from rfl] at c12s
            have c12b3 := eq_false (Nat.not_lt.2 c12s)
            have c12b4 := decide_eq_true c12s
            have c12b5 := eq_true c12s
            clear c12s
            have H' := Aside0.mk H
            clear H
            have p126 : 0 ≤ (x4_1 : Int) := of_decide_eq_true (by with_reducible assumption)
            have q126 : x4_1 < (l0.length : Int) := of_decide_eq_true (by with_reducible assumption)
            obtain ⟨ad126, e126, hx126_0, hx126_1⟩ := at_T88 HR0.out x4_1 p126 q126
            cases e126
            replace hx126_0 := cl_ HB.out hx126_0
            replace hx126_1 := cl_ HB.out hx126_1
            replace p126 := eq_true p126
            replace q126 := eq_true q126
            have p127 : 0 ≤ (x4_1 : Int) := of_decide_eq_true (by with_reducible assumption)
            have q127 : x4_1 < (l0.length : Int) := of_decide_eq_true (by with_reducible assumption)
            obtain ⟨ad127, e127, hx127_0, hx127_1⟩ := at_T88 HR0.out x4_1 p127 q127
            obtain rfl : ad126 = ad127 := (by injection e127)
            replace hx127_0 := cl_ HB.out hx127_0
            replace hx127_1 := cl_ HB.out hx127_1
            replace p127 := eq_true p127
            replace q127 := eq_true q127
            go_wp2
            repeat (go_quiet (fail); try go_wp2)
            go_roundg k1
            case measure => have := HK1.out; omega
            case rel => exact ⟨(((((x3_1 ++ (⟨#[44, 32]⟩ : ByteArray)) ++ ((rd_T88 l0 x4_1).f0)) ++ (⟨#[61, 34]⟩ : ByteArray)) ++ ((rd_T88 l0 x4_1).f1)) ++ (⟨#[34]⟩ : ByteArray)), (wrap64 (x4_1 + 1)), (by first | rfl | (simp; done) | (simp [*]; done)), (by first | rfl | (simp; done) | (simp [*]; done)), H', ⟨by have := HK1.out; omega⟩, ⟨by exact hs_ HB.out⟩⟩
           rw [if_neg c12] at H
           exact absurd H (by simp)
          rw [if_neg c11] at H
          exact absurd H (by simp)
         rw [if_neg c10] at H
         exact absurd H (by simp)
        rw [if_neg c9] at H
        exact absurd H (by simp)
       rw [if_neg c8] at H
       exact absurd H (by simp)
      rw [if_neg c7] at H
      exact absurd H (by simp)
     rw [if_neg c6] at H
     have c6b0 : decide (0 < x4_1) = false := decide_eq_false c6
     clear c6
     by_cases c13 : 0 ≤ x4_1
     ·
      rw [if_pos c13] at H
      have c13b0 := decide_eq_true c13
      clear c13
      by_cases c14 : x3_1.size + ((rd_T88 l0 x4_1).f0).size ≤ 9223372036854775807
      ·
       rw [if_pos c14] at H
       have c14b0 := eq_true c14
       have c14b1 := decide_eq_true c14
       try have c14b2 : (9223372036854775807 < x3_1.size + ((rd_T88 l0 x4_1).f0).size) = False := eq_false (Nat.not_lt.2 c14)
       by_cases c15 : (x3_1 ++ ((rd_T88 l0 x4_1).f0)).size + 2 ≤ 9223372036854775807
       ·
        rw [if_pos c15] at H
        have c15b0 := eq_true c15
        have c15b1 := decide_eq_true c15
        try have c15b2 : (9223372036854775807 < (x3_1 ++ ((rd_T88 l0 x4_1).f0)).size + 2) = False := eq_false (Nat.not_lt.2 c15)
        have c15s := c15
        simp only [ByteArray.size_append] at c15s
        have c15b3 := eq_false (Nat.not_lt.2 c15s)
        have c15b4 := decide_eq_true c15s
        have c15b5 := eq_true c15s
        clear c15s
        by_cases c16 : ((x3_1 ++ ((rd_T88 l0 x4_1).f0)) ++ (⟨#[61, 34]⟩ : ByteArray)).size + ((rd_T88 l0 x4_1).f1).size ≤ 9223372036854775807
        ·
         rw [if_pos c16] at H
         have c16b0 := eq_true c16
         have c16b1 := decide_eq_true c16
         try have c16b2 : (9223372036854775807 < ((x3_1 ++ ((rd_T88 l0 x4_1).f0)) ++ (⟨#[61, 34]⟩ : ByteArray)).size + ((rd_T88 l0 x4_1).f1).size) = False := eq_false (Nat.not_lt.2 c16)
         have c16s := c16
         simp only [ByteArray.size_append, show (⟨#[61, 34]⟩ : ByteArray).size = 2 from rfl] at c16s
         have c16b3 := eq_false (Nat.not_lt.2 c16s)
         have c16b4 := decide_eq_true c16s
         have c16b5 := eq_true c16s
         clear c16s
         by_cases c17 : (((x3_1 ++ ((rd_T88 l0 x4_1).f0)) ++ (⟨#[61, 34]⟩ : ByteArray)) ++ ((rd_T88 l0 x4_1).f1)).size + 1 ≤ 9223372036854775807
         ·
          rw [if_pos c17] at H
          have c17b0 := eq_true c17
          have c17b1 := decide_eq_true c17
          try have c17b2 : (9223372036854775807 < (((x3_1 ++ ((rd_T88 l0 x4_1).f0)) ++ (⟨#[61, 34]⟩ : ByteArray)) ++ ((rd_T88 l0 x4_1).f1)).size + 1) = False := eq_false (Nat.not_lt.2 c17)
          have c17s := c17
          simp only [ByteArray.size_append, show (⟨#[61, 34]⟩ : ByteArray).size = 2 from rfl] at c17s
          have c17b3 := eq_false (Nat.not_lt.2 c17s)
          have c17b4 := decide_eq_true c17s
          have c17b5 := eq_true c17s
          clear c17s
          have H' := Aside0.mk H
          clear H
          have p128 : 0 ≤ (x4_1 : Int) := of_decide_eq_true (by with_reducible assumption)
          have q128 : x4_1 < (l0.length : Int) := of_decide_eq_true (by with_reducible assumption)
          obtain ⟨ad128, e128, hx128_0, hx128_1⟩ := at_T88 HR0.out x4_1 p128 q128
          cases e128
          replace hx128_0 := cl_ HB.out hx128_0
          replace hx128_1 := cl_ HB.out hx128_1
          replace p128 := eq_true p128
          replace q128 := eq_true q128
          have p129 : 0 ≤ (x4_1 : Int) := of_decide_eq_true (by with_reducible assumption)
          have q129 : x4_1 < (l0.length : Int) := of_decide_eq_true (by with_reducible assumption)
          obtain ⟨ad129, e129, hx129_0, hx129_1⟩ := at_T88 HR0.out x4_1 p129 q129
          obtain rfl : ad128 = ad129 := (by injection e129)
          replace hx129_0 := cl_ HB.out hx129_0
          replace hx129_1 := cl_ HB.out hx129_1
          replace p129 := eq_true p129
          replace q129 := eq_true q129
          go_wp2
          repeat (go_quiet (fail); try go_wp2)
          go_roundg k1
          case measure => have := HK1.out; omega
          case rel => exact ⟨((((x3_1 ++ ((rd_T88 l0 x4_1).f0)) ++ (⟨#[61, 34]⟩ : ByteArray)) ++ ((rd_T88 l0 x4_1).f1)) ++ (⟨#[34]⟩ : ByteArray)), (wrap64 (x4_1 + 1)), (by first | rfl | (simp; done) | (simp [*]; done)), (by first | rfl | (simp; done) | (simp [*]; done)), H', ⟨by have := HK1.out; omega⟩, ⟨by exact hs_ HB.out⟩⟩
         rw [if_neg c17] at H
         exact absurd H (by simp)
        rw [if_neg c16] at H
        exact absurd H (by simp)
       rw [if_neg c15] at H
       exact absurd H (by simp)
      rw [if_neg c14] at H
      exact absurd H (by simp)
     rw [if_neg c13] at H
     exact absurd H (by simp)
    rw [if_neg c5] at H
    have c5b0 : decide (x4_1 < (l0.length : Int)) = false := decide_eq_false c5
    clear c5
    by_cases c18 : x3_1.size + 1 ≤ 9223372036854775807
    ·
     rw [if_pos c18] at H
     have c18b0 := eq_true c18
     have c18b1 := decide_eq_true c18
     try have c18b2 : (9223372036854775807 < x3_1.size + 1) = False := eq_false (Nat.not_lt.2 c18)
     obtain rfl := Option.some.inj H
     go_wp2
     repeat (go_quiet (fail); try go_wp2)
     go_ret
     exact an_ (by exact hs_ HB.out)
    rw [if_neg c18] at H
    exact absurd H (by simp)
 replace c3 := Bool.eq_false_iff.mpr c3
 subst c3
 rw [if_neg (show ¬ (false = true) by decide)] at H
 obtain rfl := Option.some.inj H
 go_enter Try.func96, Try.ntmps96
 go_wp2_with (first | (go_at_call 118; (with_reducible refine (spec_SetOk.calls k _ _ l0 false _ ?side1 ?side2 A2.out).mono ?_); (case side1 => exact cp_ (HR0.out)); (case side2 => exact HC0.out); rintro e w19 ⟨rfl, hb⟩; replace HB := st_ HB hb; (try clear hb); (try clear hk)))
 repeat (go_quiet (first | (go_at_call 118; (with_reducible refine (spec_SetOk.calls k _ _ l0 false _ ?side1 ?side2 A2.out).mono ?_); (case side1 => exact cp_ (HR0.out)); (case side2 => exact HC0.out); rintro e w19 ⟨rfl, hb⟩; replace HB := st_ HB hb; (try clear hb); (try clear hk))); try go_wp2_with (first | (go_at_call 118; (with_reducible refine (spec_SetOk.calls k _ _ l0 false _ ?side1 ?side2 A2.out).mono ?_); (case side1 => exact cp_ (HR0.out)); (case side2 => exact HC0.out); rintro e w19 ⟨rfl, hb⟩; replace HB := st_ HB hb; (try clear hb); (try clear hk))))
 go_ret
 exact an_ (by exact hs_ HB.out)
def spec_Finger.f (k : Nat) (l0 : List (S88)) : Option (Int) := (spec_SetText.f k l0).bind fun t130 => ((spec_Sum.f k t130).bind fun t131 => (some (Int.tmod (Go.bits .xor .i64 t131 (t131 / 65536)) 32)))
theorem spec_Finger.mono : ∀ a0 k, LeO (spec_Finger.f k a0) (spec_Finger.f (k + 1) a0) := by
 intro a0 k
 unfold spec_Finger.f
 repeat' first | (with_reducible first | exact spec_SetText.mono _ _ | exact spec_Sum.mono _ _ | exact LeO.refl _ | exact LeO.none _ | refine LeO.ite ?_ ?_ | refine LeO.bind ?_ (fun _ => ?_)) | exact spec_SetText.mono _ _ | exact spec_Sum.mono _ _
theorem spec_Finger.calls (k : Nat) (A0 : Option Addr) (c0 : Nat) (l0 : List (S88)) (r : Int) (w : World) (hr0 : Kd.C k88 w A0 l0.length l0) (hc0 : l0.length ≤ c0) (h : spec_Finger.f k l0 = some r) :
  Calls Try.prog 57 #[.slice A0 l0.length c0] w fun e w' => e = .returned (.int .i64 r) ∧ Below w.heap.size w w' := by
 have HR0 := Aside0.mk hr0
 have HC0 := Aside0.mk hc0
 clear hr0 hc0
 have HB := Aside0.mk (Below.refl w.heap.size w)
 have H : ((spec_SetText.f k l0).bind fun t130 => ((spec_Sum.f k t130).bind fun t131 => (some (Int.tmod (Go.bits .xor .i64 t131 (t131 / 65536)) 32)))) = some r := h
 clear h
 replace H := Option.bind_eq_some_iff.mp H
 obtain ⟨t130, A20, H⟩ := H
 have A2 := Aside0.mk A20
 clear A20
 replace H := Option.bind_eq_some_iff.mp H
 obtain ⟨t131, A30, H⟩ := H
 have A3 := Aside0.mk A30
 clear A30
 obtain rfl := Option.some.inj H
 go_enter Try.func57, Try.ntmps57
 go_wp2_with (first | ((with_reducible refine gate_callee (f := 96) rfl ?_); refine gl_ (some 5) Try.func96 #[.slice A0 l0.length c0] ?_; (with_reducible refine (spec_SetText.calls k _ _ l0 t130 _ ?side1 ?side2 A2.out).mono ?_); (case side1 => exact cp_ (HR0.out)); (case side2 => exact HC0.out); rintro e w4 ⟨rfl, hb⟩; refine ⟨_, rfl, ?_⟩; replace HB := st_ HB hb; (try clear hb); (try clear hk)) | ((with_reducible refine gate_callee (f := 95) rfl ?_); refine gl_ (some 6) Try.func95 #[.string t130] ?_; (with_reducible refine (spec_Sum.calls k t130 t131 _ A3.out).mono ?_); rintro e w' ⟨rfl, ⟨nd, rfl⟩⟩; refine ⟨_, rfl, ?_⟩))
 go_ret
 exact an_ (by exact hs_ HB.out)
def spec_HomeOf.f (k : Nat) (l0 : List (S57)) (l1 : List (S88)) : Option (Int) := (spec_Finger.f k l1).bind fun t132 => ((spec_PartOf.f t132 (l0.length : Int)).bind fun t133 => (some t133))
theorem spec_HomeOf.mono : ∀ a0 a1 k, LeO (spec_HomeOf.f k a0 a1) (spec_HomeOf.f (k + 1) a0 a1) := by
 intro a0 a1 k
 unfold spec_HomeOf.f
 repeat' first | (with_reducible first | exact spec_Finger.mono _ _ | exact LeO.refl _ | exact LeO.none _ | refine LeO.ite ?_ ?_ | refine LeO.bind ?_ (fun _ => ?_)) | exact spec_Finger.mono _ _
theorem spec_HomeOf.calls (k : Nat) (A0 : Option Addr) (c0 : Nat) (l0 : List (S57)) (A1 : Option Addr) (c1 : Nat) (l1 : List (S88)) (r : Int) (w : World) (hr0 : Kd.C k57 w A0 l0.length l0) (hc0 : l0.length ≤ c0) (hr1 : Kd.C k88 w A1 l1.length l1) (hc1 : l1.length ≤ c1) (h : spec_HomeOf.f k l0 l1 = some r) :
  Calls Try.prog 14 #[.slice A0 l0.length c0, .slice A1 l1.length c1] w fun e w' => e = .returned (.int .i64 r) ∧ Below w.heap.size w w' := by
 have HR0 := Aside0.mk hr0
 have HC0 := Aside0.mk hc0
 clear hr0 hc0
 have HR1 := Aside0.mk hr1
 have HC1 := Aside0.mk hc1
 clear hr1 hc1
 have HB := Aside0.mk (Below.refl w.heap.size w)
 have H : ((spec_Finger.f k l1).bind fun t132 => ((spec_PartOf.f t132 (l0.length : Int)).bind fun t133 => (some t133))) = some r := h
 clear h
 replace H := Option.bind_eq_some_iff.mp H
 obtain ⟨t132, A30, H⟩ := H
 have A3 := Aside0.mk A30
 clear A30
 replace H := Option.bind_eq_some_iff.mp H
 obtain ⟨t133, A40, H⟩ := H
 have A4 := Aside0.mk A40
 clear A40
 obtain rfl := Option.some.inj H
 go_enter Try.func14, Try.ntmps14
 go_wp2_with (first | ((with_reducible refine gate_callee (f := 57) rfl ?_); refine gl_ (some 6) Try.func57 #[.slice A1 l1.length c1] ?_; (with_reducible refine (spec_Finger.calls k _ _ l1 t132 _ ?side1 ?side2 A3.out).mono ?_); (case side1 => exact cp_ (HR1.out)); (case side2 => exact HC1.out); rintro e w5 ⟨rfl, hb⟩; refine ⟨_, rfl, ?_⟩; replace HB := st_ HB hb; (try clear hb); (try clear hk)) | ((with_reducible refine gate_callee (f := 56) rfl ?_); refine gl_ (some 9) Try.func56 #[.int .i64 t132, .int .i64 (l0.length : Int)] ?_; (with_reducible refine (spec_PartOf.calls t132 (l0.length : Int) t133 _ A4.out).mono ?_); rintro e w' ⟨rfl, ⟨nd, rfl⟩⟩; refine ⟨_, rfl, ?_⟩))
 go_ret
 exact an_ (by exact hs_ HB.out)
def spec_l7At.l0 : Nat → Int → Int → Int → Int → List (S100) → Option (Int)
 | 0, _, _, _, _, _ => none
 | k + 1, x1, x5, x471000, x471001, x471002 => if x5 < (x471002.length : Int) then (if 0 ≤ x5 then (if ((rd_T100 x471002 x5).f0) = x1 then (some x5) else (spec_l7At.l0 k x1 (wrap64 (x5 + 1)) x471000 x471001 x471002)) else (none)) else (some (-1))
def spec_l7At.f (k : Nat) (a0_0 : Int) (a0_1 : Int) (l0_2 : List (S100)) (a1 : Int) : Option (Int) := spec_l7At.l0 k a1 0 a0_0 a0_1 l0_2
theorem spec_l7At.mono_l : ∀ k, (∀ y0 y1 y2 y3 y4, LeO (spec_l7At.l0 k y0 y1 y2 y3 y4) (spec_l7At.l0 (k + 1) y0 y1 y2 y3 y4))
 | 0 => fun _ _ _ _ _ r h => by simp [spec_l7At.l0] at h
 | k + 1 => by
  have ih0 := spec_l7At.mono_l k
  intro y0 y1 y2 y3 y4
  unfold spec_l7At.l0
  repeat' first
  | (with_reducible exact ih0 _ _ _ _ _)
  | (with_reducible exact LeO.refl _)
  | (with_reducible exact LeO.none _)
  | (with_reducible refine LeO.ite ?_ ?_)
  | (with_reducible refine LeO.bind ?_ (fun _ => ?_))
  | exact ih0 _ _ _ _ _
theorem spec_l7At.mono : ∀ a0 a1 a2 a3 k, LeO (spec_l7At.f k a0 a1 a2 a3) (spec_l7At.f (k + 1) a0 a1 a2 a3) := by
 intro a0 a1 a2 a3 k
 have ih0 := spec_l7At.mono_l k
 unfold spec_l7At.f
 repeat' first | (with_reducible first | exact ih0 _ _ _ _ _ | exact LeO.refl _ | exact LeO.none _ | refine LeO.ite ?_ ?_ | refine LeO.bind ?_ (fun _ => ?_)) | exact ih0 _ _ _ _ _
theorem spec_l7At.calls (k : Nat) (a0_0 : Int) (a0_1 : Int) (A0_2 : Option Addr) (c0_2 : Nat) (l0_2 : List (S100)) (a1 : Int) (r : Int) (w : World) (hr0_2 : Kd.C k100 w A0_2 l0_2.length l0_2) (hc0_2 : l0_2.length ≤ c0_2) (h : spec_l7At.f k a0_0 a0_1 l0_2 a1 = some r) :
  Calls Try.prog 75 #[.agg #[.int .i64 a0_0, .int .i64 a0_1, .slice A0_2 l0_2.length c0_2], .int .i64 a1] w fun e w' => e = .returned (.int .i64 r) ∧ Below w.heap.size w w' := by
 have hu57 := Try.underlying57
 have HR0_2 := Aside0.mk hr0_2
 have HC0_2 := Aside0.mk hc0_2
 clear hr0_2 hc0_2
 have HB := Aside0.mk (Below.refl w.heap.size w)
 have H : (spec_l7At.l0 k a1 0 a0_0 a0_1 l0_2) = some r := h
 clear h
 have H' := Aside0.mk H
 clear H
 go_enter Try.func75, Try.ntmps75
 go_wp2_with (first | ((with_reducible refine gd_ 2 rfl ?_); refine bv_ 2 #[.int .i64 a0_0, .int .i64 a0_1, .slice A0_2 l0_2.length c0_2] 57 ?_; intro gb470 hg w3 hbox hb; have BK470 := Aside0.mk (hbox); have GW470 := Aside0.mk ((gw_ hg (hs_ HB.out))); replace HB := st_ HB hb; have GE470 := Ge_.mk GW470.out; clear hb hbox hg))
 go_loopg [5] k (fun kq v5 w' => ∃ (x5_1 : Int), v5 = .int .i64 x5_1 ∧ Aside0 (spec_l7At.l0 kq a1 x5_1 a0_0 a0_1 l0_2 = some r) ∧ Aside0 (kq ≤ k) ∧ Aside0 (w'.heap[gb470]? = some (.cells #[.int .i64 a0_0, .int .i64 a0_1, (.slice A0_2 l0_2.length c0_2)] 57 (0, 0))) ∧ Aside0 (Below w.heap.size w w'))
 case atStart => exact ⟨(0), (by first | rfl | (simp; done) | (simp [*]; done)), H', ⟨Nat.le_refl _⟩, ⟨bq_ BK470.out⟩, ⟨by exact hs_ HB.out⟩⟩
 case round =>
  clear H'
  try clear p2
  obtain ⟨x5_1, rfl, HA, HK1, BK470, HB⟩ := hrel
  cases gk with
  | zero => exact absurd HA.out (by simp [spec_l7At.l0])
  | succ k1 =>
   have H := HA.out
   clear HA
   simp only [spec_l7At.l0] at H
   by_cases c4 : x5_1 < (l0_2.length : Int)
   ·
    rw [if_pos c4] at H
    have c4b0 := decide_eq_true c4
    clear c4
    by_cases c5 : 0 ≤ x5_1
    ·
     rw [if_pos c5] at H
     have c5b0 := decide_eq_true c5
     clear c5
     by_cases c6 : ((rd_T100 l0_2 x5_1).f0) = a1
     ·
      rw [if_pos c6] at H
      have c6b0 : (((rd_T100 l0_2 x5_1).f0) == a1) = true := beq_iff_eq.mpr c6
      have c6b1 : (((rd_T100 l0_2 x5_1).f0) != a1) = false := bne_eq_false_iff_eq.mpr c6
      clear c6
      obtain rfl := Option.some.inj H
      obtain ⟨z7_0, z7_1, z7_2, y7_0, y7_1, y7_2⟩ := bc3_ BK470.out
      have p471 : 0 ≤ (x5_1 : Int) := of_decide_eq_true (by with_reducible assumption)
      have q471 : x5_1 < (l0_2.length : Int) := of_decide_eq_true (by with_reducible assumption)
      obtain ⟨ad471, A471_1, c471_1, e471, hx471_0, hx471_1, hl471_1, hi471_1⟩ := at_T100 HR0_2.out x5_1 p471 q471
      cases e471
      replace hx471_0 := cl_ HB.out hx471_0
      replace hx471_1 := cl_ HB.out hx471_1
      have HR471_1 := Aside0.mk hi471_1
      have HC471_1 := Aside0.mk hl471_1
      clear hi471_1 hl471_1
      replace p471 := eq_true p471
      replace q471 := eq_true q471
      go_wp2
      go_ret
      exact an_ (by exact hs_ HB.out)
     rw [if_neg c6] at H
     have c6b0 : (((rd_T100 l0_2 x5_1).f0) == a1) = false := beq_eq_false_iff_ne.mpr c6
     have c6b1 : (((rd_T100 l0_2 x5_1).f0) != a1) = true := bne_iff_ne.mpr c6
     have H' := Aside0.mk H
     clear H
     obtain ⟨z8_0, z8_1, z8_2, y8_0, y8_1, y8_2⟩ := bc3_ BK470.out
     have p471 : 0 ≤ (x5_1 : Int) := of_decide_eq_true (by with_reducible assumption)
     have q471 : x5_1 < (l0_2.length : Int) := of_decide_eq_true (by with_reducible assumption)
     obtain ⟨ad471, A471_1, c471_1, e471, hx471_0, hx471_1, hl471_1, hi471_1⟩ := at_T100 HR0_2.out x5_1 p471 q471
     cases e471
     replace hx471_0 := cl_ HB.out hx471_0
     replace hx471_1 := cl_ HB.out hx471_1
     have HR471_1 := Aside0.mk hi471_1
     have HC471_1 := Aside0.mk hl471_1
     clear hi471_1 hl471_1
     replace p471 := eq_true p471
     replace q471 := eq_true q471
     go_wp2
     go_roundg k1
     case measure => have := HK1.out; omega
     case rel => exact ⟨(wrap64 (x5_1 + 1)), (by first | rfl | (simp; done) | (simp [*]; done)), H', ⟨by have := HK1.out; omega⟩, ⟨bq_ BK470.out⟩, ⟨by exact hs_ HB.out⟩⟩
    rw [if_neg c5] at H
    exact absurd H (by simp)
   rw [if_neg c4] at H
   have c4b0 : decide (x5_1 < (l0_2.length : Int)) = false := decide_eq_false c4
   clear c4
   obtain rfl := Option.some.inj H
   obtain ⟨z9_0, z9_1, z9_2, y9_0, y9_1, y9_2⟩ := bc3_ BK470.out
   go_wp2
   go_ret
   exact an_ (by exact hs_ HB.out)
def spec_l4Copy.f (l0_0 : List (S88)) (a0_1 : Int) (a0_2 : Int) (a0_3 : ByteArray) : Option ((List (S88)) × Int × Int × ByteArray) := (some (([] : List (S88)) : List (S88))).bind fun y477 => (if y477.length + l0_0.length < 4398046511104 then (some ((y477 ++ l0_0), a0_1, a0_2, a0_3)) else (none))
theorem spec_l4Copy.calls (A0_0 : Option Addr) (c0_0 : Nat) (l0_0 : List (S88)) (a0_1 : Int) (a0_2 : Int) (a0_3 : ByteArray) (r1 : List (S88)) (r2 : Int) (r3 : Int) (r4 : ByteArray) (w : World) (hr0_0 : Kd.C k88 w A0_0 l0_0.length l0_0) (hc0_0 : l0_0.length ≤ c0_0) (h : spec_l4Copy.f l0_0 a0_1 a0_2 a0_3 = some (r1, r2, r3, r4)) :
  Calls Try.prog 77 #[.agg #[.slice A0_0 l0_0.length c0_0, .int .i64 a0_1, .int .i64 a0_2, .string a0_3]] w fun e w' => ∃ v0_ : Value, e = .returned (.agg #[v0_, .int .i64 r2, .int .i64 r3, .string r4]) ∧ Kd.R k88 88 w' w.heap.size (fun _ => True) v0_ r1 ∧ Below w.heap.size w w' := by
 have hu43 := Try.underlying43
 have HR0_0 := Aside0.mk hr0_0
 have HC0_0 := Aside0.mk hc0_0
 clear hr0_0 hc0_0
 have HB := Aside0.mk (Below.refl w.heap.size w)
 have H : ((some (([] : List (S88)) : List (S88))).bind fun y477 => (if y477.length + l0_0.length < 4398046511104 then (some ((y477 ++ l0_0), a0_1, a0_2, a0_3)) else (none))) = some (r1, r2, r3, r4) := h
 clear h
 obtain ⟨y477, hy477⟩ : ∃ y_ : List (S88), y_ = (([] : List (S88))) := ⟨_, rfl⟩
 replace H : (if y477.length + l0_0.length < 4398046511104 then (some ((y477 ++ l0_0), a0_1, a0_2, a0_3)) else (none)) = some (r1, r2, r3, r4) := by first | (rw [hy477]; with_reducible exact H) | (have H2_ := (Option.bind_some _ _).symm.trans H; rw [hy477]; with_reducible exact H2_) | (have H2_ := (Option.bind_some _ _).symm.trans H; with_reducible exact H2_) | with_reducible exact H | (rw [hy477]; exact H) | exact H
 have Ny477 := Aside0.mk hy477
 clear hy477
 by_cases c2 : y477.length + l0_0.length < 4398046511104
 ·
  rw [if_pos c2] at H
  have LMc2 := Aside0.mk c2
  clear c2
  obtain ⟨y480, hy480⟩ : ∃ y_ : List (S88), y_ = (y477 ++ l0_0) := ⟨_, rfl⟩
  replace H : (some (y480, a0_1, a0_2, a0_3)) = some (r1, r2, r3, r4) := by first | (rw [hy480]; with_reducible exact H) | (have H2_ := (Option.bind_some _ _).symm.trans H; rw [hy480]; with_reducible exact H2_) | (have H2_ := (Option.bind_some _ _).symm.trans H; with_reducible exact H2_) | with_reducible exact H | (rw [hy480]; exact H) | exact H
  have Ny480 := Aside0.mk hy480
  clear hy480
  simp only [Option.some.injEq, Prod.mk.injEq] at H
  obtain ⟨rfl, rfl, rfl, rfl⟩ := H
  go_enter Try.func77, Try.ntmps77
  go_wp2_with (first | ((with_reducible refine gd_ 1 rfl ?_); refine bv_ 1 #[.slice A0_0 l0_0.length c0_0, .int .i64 a0_1, .int .i64 a0_2, .string a0_3] 43 ?_; intro gb475 hg w3 hbox hb; have BK475 := Aside0.mk (hbox); have GW475 := Aside0.mk ((gw_ hg (hs_ HB.out))); replace HB := st_ HB hb; have GE475 := Ge_.mk GW475.out; clear hb hbox hg) | ((with_reducible refine gd_ 2 rfl ?_); refine bv_ 2 #[.slice none 0 0, .int .i64 0, .int .i64 0, .string (⟨#[]⟩ : ByteArray)] 43 ?_; intro gb476 hg w4 hbox hb; have BK476 := Aside0.mk (hbox); have GW476 := Aside0.mk ((gw_ hg (hs_ HB.out))); replace HB := st_ HB hb; have GE476 := Ge_.mk GW476.out; have NB475_476 := Ne_.mk (nl_ BK475.out hg); replace BK475 := bk2_ BK475 hb; have NB476_475 := Ne_.mk (NB475_476.out.symm); clear hb hbox hg) | ((with_reducible refine gd_ 3 rfl ?_); refine Kd.R_lit k88 _ 88 ?hg (N := 3) ?hd (xs := ([] : List (S88))) (inner := []) (ok := fun _ => True) (okp := fun _ => True) ?hr ?hp (fun _ hk => hk) trivial (Below.refl _ _) (Nat.le_refl _) (by simp) ?_; (case hd => rfl); (case hg => rfl); (case hr => first | (go_simp; done) | (go_simp; rfl)); (case hp => exact (Reps.none _ _)); intro v478 w5 ho6 hb hg_ hnew_; clear hg_ hnew_; (first | rw [← Ny477.out] at ho6 | (simp only [Int.reduceToNat] at ho6; rw [← Ny477.out] at ho6)); have HO479 := Aside0.mk (Kd.R_lower ho6 (below_size (hs_ HB.out))); replace BK475 := bk2_ BK475 hb; replace BK476 := bk2_ BK476 hb; replace HB := st_ HB hb; clear hb ho6; have hnb7 := NB475_476.out; have hnc7 := NB476_475.out; obtain ⟨z8_0, z8_1, z8_2, z8_3, y8_0, y8_1, y8_2, y8_3⟩ := bc4_ BK475.out) | ((with_reducible refine gate_builtin (b := .append) (xs := #[.tmp 3, .tmp 5]) rfl ?_); at_builtin; refine Kd.R_append_rows k88 (w0 := w) w.heap.size rfl (.tmp 3) (.tmp 5) 29 88 (.agg #[(.string ⟨#[]⟩), (.string ⟨#[]⟩)]) 32 rfl Try.underlying29 info88 rfl (by decide) (by omega) v478 y477 l0_0 _ _ _ (fun _ => True) (fun _ => False) rfl rfl ?aO ?aR (fun _ _ h => h) (fun _ h => h.elim) ?aF ?aB ?aS ?aL ?_; (case aR => repeat (first | exact (Kd.C_below HR0_0.out HB.out) | (with_reducible first | refine ca_ ?_ _ | refine cn_ ?_ _ | refine cd_ ?_))); (case aB => exact (hs_ HB.out)); (case aF => exact (fun _ _ => trivial)); (case aO => exact (rp_ HO479.out)); (case aS => exact (below_size (hs_ HB.out))); (case aL => have := LMc2.out; omega); intro v481 w9 ho hb hg hat; rw [← Ny480.out] at ho; replace BK475 := Aside0.mk (blk_grown (bq_ BK475.out) hg (Kd.R_ne HO479.out BK475.out (by decide))); replace BK476 := Aside0.mk (blk_grown (bq_ BK476.out) hg (Kd.R_ne HO479.out BK476.out (by decide))); replace HB := Aside0.mk (hb); have HO482 := Aside0.mk (ho); clear HO479; clear ho hb hg hat; obtain ⟨Ao10, co10, eo10⟩ := Kd.R_slice HO482.out; subst eo10; obtain ⟨z11_0, z11_1, z11_2, z11_3, y11_0, y11_1, y11_2, y11_3⟩ := bc4_ BK475.out; obtain ⟨z12_0, z12_1, z12_2, z12_3, y12_0, y12_1, y12_2, y12_3⟩ := bc4_ BK476.out))
  refine bodyPost_ret (results_cell_row rfl _ _ gb476 43 #[.slice Ao10 y480.length co10, .int .i64 a0_1, .int .i64 a0_2, .string a0_3] (0, 0) _ rfl (bp_ BK476.out) Try.underlying43 rfl (by kernel_rfl)) rfl ?_
  exact ⟨_, by first | rfl | (simp [errW_none, errW_some] <;> rfl) | (simp [*, errW_none, errW_some] <;> rfl), by (with_reducible repeat (first | apply Kd.R_alloc | apply Kd.R_drewN | apply Kd.R_drew)); exact Kd.R_mono (rf_ gb476 (Kd.R_far (p := ⟨gb475, 0, none⟩) (Kd.R_types (Kd.R_types HO482.out BK475.out (by decide)) BK476.out (by decide)) (fun _ hk => hk.1.2) (.slice Ao10 y480.length co10)) (fun _ hk => hk.2)) (fun _ hk => trivial), by exact hs_ HB.out⟩
 rw [if_neg c2] at H
 exact absurd H (by simp)
def spec_l4All.l0 : Nat → List (S43) → List (S43) → Int → Option ((List (S43)))
 | 0, _, _, _ => none
 | k + 1, x0, x3, x4 => if x4 < (x0.length : Int) then (if 0 ≤ x4 then ((spec_l4Copy.f ((rd_T43 x0 x4).f0) ((rd_T43 x0 x4).f1) ((rd_T43 x0 x4).f2) ((rd_T43 x0 x4).f3)).bind fun bt700 => (if x3.length < 2513169434916 then (spec_l4All.l0 k x0 (x3 ++ [(⟨bt700.1, bt700.2.1, bt700.2.2.1, bt700.2.2.2⟩ : S43)]) (wrap64 (x4 + 1))) else (none))) else (none)) else (some x3)
def spec_l4All.f (k : Nat) (l0 : List (S43)) : Option ((List (S43))) := spec_l4All.l0 k l0 (([] : List (S43))) 0
theorem spec_l4All.mono_l : ∀ k, (∀ y0 y1 y2, LeO (spec_l4All.l0 k y0 y1 y2) (spec_l4All.l0 (k + 1) y0 y1 y2))
 | 0 => fun _ _ _ r h => by simp [spec_l4All.l0] at h
 | k + 1 => by
  have ih0 := spec_l4All.mono_l k
  intro y0 y1 y2
  unfold spec_l4All.l0
  repeat' first
  | (with_reducible exact ih0 _ _ _)
  | (with_reducible exact LeO.refl _)
  | (with_reducible exact LeO.none _)
  | (with_reducible refine LeO.ite ?_ ?_)
  | (with_reducible refine LeO.bind ?_ (fun _ => ?_))
  | exact ih0 _ _ _
theorem spec_l4All.mono : ∀ a0 k, LeO (spec_l4All.f k a0) (spec_l4All.f (k + 1) a0) := by
 intro a0 k
 have ih0 := spec_l4All.mono_l k
 unfold spec_l4All.f
 repeat' first | (with_reducible first | exact ih0 _ _ _ | exact LeO.refl _ | exact LeO.none _ | refine LeO.ite ?_ ?_ | refine LeO.bind ?_ (fun _ => ?_)) | exact ih0 _ _ _
theorem spec_l4All.calls (k : Nat) (A0 : Option Addr) (c0 : Nat) (l0 : List (S43)) (r : List (S43)) (w : World) (hr0 : Kd.C k43 w A0 l0.length l0) (hc0 : l0.length ≤ c0) (h : spec_l4All.f k l0 = some r) :
  Calls Try.prog 112 #[.slice A0 l0.length c0] w fun e w' => ∃ v0_ : Value, e = .returned (v0_) ∧ Kd.S k43 43 w' w.heap.size (fun _ => True) v0_ r ∧ Below w.heap.size w w' := by
 have hu43 := Try.underlying43
 have HR0 := Aside0.mk hr0
 have HC0 := Aside0.mk hc0
 clear hr0 hc0
 have HB := Aside0.mk (Below.refl w.heap.size w)
 have H : (spec_l4All.l0 k l0 (([] : List (S43))) 0) = some r := h
 clear h
 obtain ⟨y696, hy696⟩ : ∃ y_ : List (S43), y_ = (([] : List (S43))) := ⟨_, rfl⟩
 replace H : (spec_l4All.l0 k l0 y696 0) = some r := by first | (rw [hy696]; with_reducible exact H) | (have H2_ := (Option.bind_some _ _).symm.trans H; rw [hy696]; with_reducible exact H2_) | (have H2_ := (Option.bind_some _ _).symm.trans H; with_reducible exact H2_) | with_reducible exact H | (rw [hy696]; exact H) | exact H
 have Ny696 := Aside0.mk hy696
 clear hy696
 have H' := Aside0.mk H
 clear H
 go_enter Try.func112, Try.ntmps112
 go_wp2_with (first | ((with_reducible refine gd_ 6 rfl ?_); refine Kd.S_lit k43 _ 43 ?hg (N := 6) ?hd (xs := ([] : List (S43))) (inner := []) (ok := fun _ => True) (okp := fun _ => True) ?hr ?hp (fun _ hk => hk) trivial (Below.refl _ _) (Nat.le_refl _) (by simp) ?_; (case hd => rfl); (case hg => rfl); (case hr => first | (go_simp; done) | (go_simp; rfl)); (case hp => exact (Reps.none _ _)); intro v697 w2 ho3 hb hg_ hnew_; clear hg_ hnew_; (first | rw [← Ny696.out] at ho3 | (simp only [Int.reduceToNat] at ho3; rw [← Ny696.out] at ho3)); have HO698 := Aside0.mk (Kd.S_lower ho3 (below_size (hs_ HB.out))); have n1_ := st_ HB hb; clear HB; have HB := n1_; clear n1_; clear hb ho3))
 go_loopg [3, 4] k (fun kq v3 v4 w' => ∃ (x3_1 : List (S43)) (x4_1 : Int), v4 = .int .i64 x4_1 ∧ Aside0 (spec_l4All.l0 kq l0 x3_1 x4_1 = some r) ∧ Aside0 (kq ≤ k) ∧ Aside0 (Kd.S k43 43 w' w.heap.size (fun _ => True) v3 x3_1) ∧ Aside0 (Below w.heap.size w w'))
 case atStart => exact ⟨(y696), (0), (by first | rfl | (simp; done) | (simp [*]; done)), H', ⟨Nat.le_refl _⟩, ⟨by (with_reducible repeat (first | apply Kd.S_alloc | apply Kd.S_drewN | apply Kd.S_drew)); exact HO698.out⟩, ⟨by exact hs_ HB.out⟩⟩
 case round =>
  clear H'
  try clear c1
  try clear p2
  obtain ⟨x3_1, x4_1, rfl, HA, HK1, HO_3, HB⟩ := hrel
  cases gk with
  | zero => exact absurd HA.out (by simp [spec_l4All.l0])
  | succ k1 =>
   have H := HA.out
   clear HA
   simp only [spec_l4All.l0] at H
   by_cases c4 : x4_1 < (l0.length : Int)
   ·
    rw [if_pos c4] at H
    have c4b0 := decide_eq_true c4
    clear c4
    by_cases c5 : 0 ≤ x4_1
    ·
     rw [if_pos c5] at H
     have c5b0 := decide_eq_true c5
     clear c5
     replace H := Option.bind_eq_some_iff.mp H
     obtain ⟨⟨t700, t703, t704, t705⟩, A60, H⟩ := H
     have A6 := Aside0.mk A60
     clear A60
     by_cases c7 : x3_1.length < 2513169434916
     ·
      rw [if_pos c7] at H
      have LMc7 := Aside0.mk c7
      clear c7
      obtain ⟨y707, hy707⟩ : ∃ y_ : List (S43), y_ = (x3_1 ++ [(⟨t700, t703, t704, t705⟩ : S43)]) := ⟨_, rfl⟩
      replace H : (spec_l4All.l0 k1 l0 y707 (wrap64 (x4_1 + 1))) = some r := by first | (rw [hy707]; with_reducible exact H) | (have H2_ := (Option.bind_some _ _).symm.trans H; rw [hy707]; with_reducible exact H2_) | (have H2_ := (Option.bind_some _ _).symm.trans H; with_reducible exact H2_) | with_reducible exact H | (rw [hy707]; exact H) | exact H
      have Ny707 := Aside0.mk hy707
      clear hy707
      have H' := Aside0.mk H
      clear H
      have p699 : 0 ≤ (x4_1 : Int) := of_decide_eq_true (by with_reducible assumption)
      have q699 : x4_1 < (l0.length : Int) := of_decide_eq_true (by with_reducible assumption)
      obtain ⟨ad699, A699_0, c699_0, e699, hx699_0, hx699_1, hx699_2, hx699_3, hl699_0, hi699_0⟩ := at_T43 HR0.out x4_1 p699 q699
      cases e699
      replace hx699_0 := cl_ HB.out hx699_0
      replace hx699_1 := cl_ HB.out hx699_1
      replace hx699_2 := cl_ HB.out hx699_2
      replace hx699_3 := cl_ HB.out hx699_3
      have HR699_0 := Aside0.mk hi699_0
      have HC699_0 := Aside0.mk hl699_0
      clear hi699_0 hl699_0
      replace p699 := eq_true p699
      replace q699 := eq_true q699
      go_wp2_with (first | ((with_reducible refine gate_callee (f := 77) rfl ?_); refine gl_ (some 17) Try.func77 #[.agg #[.slice A699_0 ((rd_T43 l0 x4_1).f0).length c699_0, .int .i64 ((rd_T43 l0 x4_1).f1), .int .i64 ((rd_T43 l0 x4_1).f2), .string ((rd_T43 l0 x4_1).f3)]] ?_; (with_reducible refine (spec_l4Copy.calls _ _ ((rd_T43 l0 x4_1).f0) ((rd_T43 l0 x4_1).f1) ((rd_T43 l0 x4_1).f2) ((rd_T43 l0 x4_1).f3) t700 t703 t704 t705 _ ?side1 ?side2 A6.out).mono ?_); (case side1 => exact cp_ ((Kd.C_below HR699_0.out HB.out))); (case side2 => exact HC699_0.out); rintro e w8 ⟨v701, rfl, ho0, hb⟩; refine ⟨_, rfl, ?_⟩; replace HO_3 := Aside0.mk (Kd.S_elder' (sp_ HO_3.out) (Kd.R_base ho0) hb); have HO702 := Aside0.mk (Kd.R_lower ho0 (below_size (hs_ HB.out))); replace HB := st_ HB hb; (try clear hb); (try clear hk); (try clear ho0)) | ((with_reducible refine gd_ 5 rfl ?_); refine bv_ 5 #[.slice none 0 0, .int .i64 0, .int .i64 0, .string (⟨#[]⟩ : ByteArray)] 43 ?_; intro gb706 hg w9 hbox hb; replace HO_3 := Aside0.mk (Kd.S_below (Kd.S_elderB (sp_ HO_3.out) gb706 (Nat.le_of_eq hg.symm)) hb); replace HO702 := Aside0.mk (Kd.R_below (rp_ HO702.out) hb); have BK706 := Aside0.mk (hbox); have GW706 := Aside0.mk ((gw_ hg (hs_ HB.out))); replace HB := st_ HB hb; have GE706 := Ge_.mk GW706.out; clear hb hbox hg; obtain ⟨Ao10, co10, eo10⟩ := Kd.R_slice HO702.out; subst eo10; obtain ⟨z11_0, z11_1, z11_2, z11_3, y11_0, y11_1, y11_2, y11_3⟩ := bc4_ BK706.out) | ((with_reducible refine gate_store (t := 43) (p := 5) rfl ?_); refine store_event (t := 43) (p := 5) (v := ?vo_w12) (w1 := ((((w9.setCell ⟨gb706, 0, none⟩ (.slice Ao10 t700.length co10)).setCell ⟨gb706, 1, none⟩ (.int .i64 t703)).setCell ⟨gb706, 2, none⟩ (.int .i64 t704)).setCell ⟨gb706, 3, none⟩ (.string t705))) ?hg ?ho ?hn ?hr ?_; (case ho => rfl); (case hg => rfl); (case hn => rfl); (case hr => first | (go_simp; done) | (go_simp; rfl)); intro w12 hw; replace HO_3 : Aside0 (Kd.S k43 43 w12 w.heap.size (fun k_ => some k_ ≠ (.slice Ao10 t700.length co10 : Value).ownBlock ∧ k_ ≠ gb706) u3 x3_1) := ⟨(by rw [hw]; exact (Kd.S_mono (sf_ gb706 (Kd.S_mono HO_3.out (fun k_ hk => (⟨hk, hk.2⟩ : _ ∧ k_ ≠ gb706))) (fun _ hk => hk.2)) (fun _ hk => ⟨hk.1.1.2, hk.1.2⟩)))⟩; replace HO702 : Aside0 (Kd.R k88 88 w12 w.heap.size (fun _ => True) (.slice Ao10 t700.length co10) t700) := ⟨(by rw [hw]; exact (Kd.R_mono (rf_ gb706 (Kd.R_types HO702.out BK706.out (by decide)) (fun _ hk => hk.2)) (fun _ hk => trivial)))⟩; replace BK706 : Aside0 (w12.heap[gb706]? = some (.cells #[.slice Ao10 t700.length co10, .int .i64 t703, .int .i64 t704, .string t705] 43 (0, 0))) := ⟨(by rw [hw]; exact (bp_ BK706.out))⟩; replace HB : Aside0 (Below w.heap.size w w12) := ⟨(by rw [hw]; exact (hs_ HB.out))⟩; clear hw; obtain ⟨z13_0, z13_1, z13_2, z13_3, y13_0, y13_1, y13_2, y13_3⟩ := bc4_ BK706.out) | ((with_reducible refine gate_builtin (b := .append) (xs := #[.tmp 18, .tmp 20]) rfl ?_); at_builtin; refine Kd.S_append k43 (w0 := w) w.heap.size rfl (.tmp 18) (.tmp 20) 44 43 (.agg #[(.slice none 0 0), (.int .i64 0), (.int .i64 0), (.string ⟨#[]⟩)]) 56 rfl Try.underlying44 info43 rfl (by decide) (by omega) u3 x3_1 (⟨t700, t703, t704, t705⟩ : S43) [.slice Ao10 t700.length co10, .int .i64 t703, .int .i64 t704, .string t705] (fun k_ => k_ ≠ gb706) (fun k_ => some k_ = (.slice Ao10 t700.length co10 : Value).ownBlock) rfl rfl ?aP (fun k_ hk_ => ((Kd.R_mono (ok' := fun k_ => ((fun k_ => k_ ≠ gb706)) k_ ∧ some k_ ≠ (u3 : Value).ownBlock) (Kd.R_types (Kd.R_apart' (HO702.out) (Kd.S_typed HO_3.out) (by decide)) BK706.out (by decide)) (fun k_ hk => ⟨hk.2, hk.1.2⟩))).1 k_ hk_.symm) ?aF ?aO ?aB ?aS ?aL ?_; (case aP => exact k43_mkM _ _ _ (⟨t700, t703, t704, t705⟩ : S43) (Kd.R_mono (Kd.R_tight rfl (Kd.R_mono (ok' := fun k_ => ((fun k_ => k_ ≠ gb706)) k_ ∧ some k_ ≠ (u3 : Value).ownBlock) (Kd.R_types (Kd.R_apart' (HO702.out) (Kd.S_typed HO_3.out) (by decide)) BK706.out (by decide)) (fun k_ hk => ⟨hk.2, hk.1.2⟩))) (fun _ h_ => h_))); (case aB => exact (hs_ HB.out)); (case aF => exact (fun k_ hk => Kd.freshB (g := gb706) (o := .cells #[.slice Ao10 t700.length co10, .int .i64 t703, .int .i64 t704, .string t705] 43 (0, 0)) (pb_ BK706.out) k_ hk)); (case aO => exact (Kd.S_mono (sp_ HO_3.out) (fun k_ hk => ⟨hk.2, fun e_ => hk.1 e_⟩))); (case aS => exact (below_size (hs_ HB.out))); (case aL => have := LMc7.out; omega); intro v708 w14 ho hb hg hat; rw [← Ny707.out] at ho; replace BK706 := Aside0.mk (blk_grown (bq_ BK706.out) hg (Kd.S_away HO_3.out (fun _ hk => hk.2))); replace HB := Aside0.mk (hb); have HO709 := Aside0.mk (ho); clear HO_3 HO702; clear ho hb hg hat))
      go_roundg k1
      case measure => have := HK1.out; omega
      case rel => exact ⟨(y707), (wrap64 (x4_1 + 1)), (by first | rfl | (simp; done) | (simp [*]; done)), H', ⟨by have := HK1.out; omega⟩, ⟨by (with_reducible repeat (first | apply Kd.S_alloc | apply Kd.S_drewN | apply Kd.S_drew)); exact Kd.S_mono HO709.out (fun _ hk => trivial)⟩, ⟨by exact hs_ HB.out⟩⟩
     rw [if_neg c7] at H
     exact absurd H (by simp)
    rw [if_neg c5] at H
    exact absurd H (by simp)
   rw [if_neg c4] at H
   have c4b0 : decide (x4_1 < (l0.length : Int)) = false := decide_eq_false c4
   clear c4
   obtain rfl := Option.some.inj H
   go_wp2
   go_ret
   exact ⟨_, by first | rfl | (simp [errW_none, errW_some] <;> rfl) | (simp [*, errW_none, errW_some] <;> rfl), by (with_reducible repeat (first | apply Kd.S_alloc | apply Kd.S_drewN | apply Kd.S_drew)); exact HO_3.out, by exact hs_ HB.out⟩
def spec_l6Copy.f (k : Nat) (a0_0 : Int) (l0_1 : List (S43)) : Option (Int × (List (S43))) := (spec_l4All.f k l0_1).bind fun t712 => (some (a0_0, t712))
theorem spec_l6Copy.mono : ∀ a0 a1 k, LeO (spec_l6Copy.f k a0 a1) (spec_l6Copy.f (k + 1) a0 a1) := by
 intro a0 a1 k
 unfold spec_l6Copy.f
 repeat' first | (with_reducible first | exact spec_l4All.mono _ _ | exact LeO.refl _ | exact LeO.none _ | refine LeO.ite ?_ ?_ | refine LeO.bind ?_ (fun _ => ?_)) | exact spec_l4All.mono _ _
theorem spec_l6Copy.calls (k : Nat) (a0_0 : Int) (A0_1 : Option Addr) (c0_1 : Nat) (l0_1 : List (S43)) (r1 : Int) (r2 : List (S43)) (w : World) (hr0_1 : Kd.C k43 w A0_1 l0_1.length l0_1) (hc0_1 : l0_1.length ≤ c0_1) (h : spec_l6Copy.f k a0_0 l0_1 = some (r1, r2)) :
  Calls Try.prog 108 #[.agg #[.int .i64 a0_0, .slice A0_1 l0_1.length c0_1]] w fun e w' => ∃ v1_ : Value, e = .returned (.agg #[.int .i64 r1, v1_]) ∧ Kd.S k43 43 w' w.heap.size (fun _ => True) v1_ r2 ∧ Below w.heap.size w w' := by
 have hu100 := Try.underlying100
 have HR0_1 := Aside0.mk hr0_1
 have HC0_1 := Aside0.mk hc0_1
 clear hr0_1 hc0_1
 have HB := Aside0.mk (Below.refl w.heap.size w)
 have H : ((spec_l4All.f k l0_1).bind fun t712 => (some (a0_0, t712))) = some (r1, r2) := h
 clear h
 replace H := Option.bind_eq_some_iff.mp H
 obtain ⟨t712, A20, H⟩ := H
 have A2 := Aside0.mk A20
 clear A20
 simp only [Option.some.injEq, Prod.mk.injEq] at H
 obtain ⟨rfl, rfl⟩ := H
 go_enter Try.func108, Try.ntmps108
 try go_wp2_with (first | ((with_reducible refine gd_ 1 rfl ?_); refine bv_ 1 #[.int .i64 a0_0, .slice A0_1 l0_1.length c0_1] 100 ?_; intro gb710 hg w3 hbox hb; have BK710 := Aside0.mk (hbox); have GW710 := Aside0.mk ((gw_ hg (hs_ HB.out))); replace HB := st_ HB hb; have GE710 := Ge_.mk GW710.out; clear hb hbox hg) | ((with_reducible refine gd_ 2 rfl ?_); refine bv_ 2 #[.int .i64 0, .slice none 0 0] 100 ?_; intro gb711 hg w4 hbox hb; have BK711 := Aside0.mk (hbox); have GW711 := Aside0.mk ((gw_ hg (hs_ HB.out))); replace HB := st_ HB hb; have GE711 := Ge_.mk GW711.out; have NB710_711 := Ne_.mk (nl_ BK710.out hg); replace BK710 := bk2_ BK710 hb; have NB711_710 := Ne_.mk (NB710_711.out.symm); clear hb hbox hg))
 replace BK710 := Aside0.mk (blk_drew BK710.out)
 replace BK711 := Aside0.mk (blk_drew BK711.out)
 replace HB := Aside0.mk (bd_ HB.out)
 refine start_ (n := 7) (S := fun w' => w'.cell? ⟨gb710, 0, none⟩ = some (.int .i64 a0_0) ∧ w'.cell? ⟨gb710, 1, none⟩ = some (.slice A0_1 l0_1.length c0_1)) (ds := []) #[f_,f_,f_,f_,f_,f_,f_] (by kernel_rfl) rfl rfl ⟨bx_ BK710.out 0, bx_ BK710.out 1⟩ (fun hHeld => ?_)
 generalize w4.drew = w5 at BK710 BK711 HB hHeld ⊢
 refine pure_ (i := 0) (N := some 3) (v := ?_) (a' := ?_) #[t_,f_,f_,f_,f_,f_,f_] rfl rfl (by kernel_rfl) (fun _ _ _ h => h) (Or.inl ⟨by rfl, ?_⟩) ?_ ?_
 rotate_left
 ·
  intro w'
  go_simp
  with_reducible rfl
 rotate_left
 ·
  simp only [fr_]
  rfl
 refine pure_ (i := 2) (N := some 5) (v := ?_) (a' := ?_) #[t_,f_,t_,f_,f_,f_,f_] rfl rfl (by kernel_rfl) (fun _ _ _ h => h) (Or.inl ⟨by rfl, ?_⟩) ?_ ?_
 rotate_left
 ·
  intro w'
  go_simp
  with_reducible rfl
 rotate_left
 ·
  simp only [fr_]
  rfl
 refine take_ (i := 1) (N := some 4) (v := ?_) (a' := ?_) #[t_,t_,t_,f_,f_,f_,f_] rfl rfl (by kernel_rfl) (fun _ _ _ h => h) (Or.inl ⟨by rfl, ?_⟩) hHeld ?_ ?_
 rotate_left
 ·
  rintro w' ⟨s0, s1⟩
  go_simp
  with_reducible rfl
 rotate_left
 ·
  simp only [fr_]
  rfl
 refine take_ (i := 3) (N := some 6) (v := ?_) (a' := ?_) #[t_,t_,t_,t_,f_,f_,f_] rfl rfl (by kernel_rfl) (fun _ _ _ h => h) (Or.inl ⟨by rfl, ?_⟩) hHeld ?_ ?_
 rotate_left
 ·
  rintro w' ⟨s0, s1⟩
  go_simp
  with_reducible rfl
 rotate_left
 ·
  simp only [fr_]
  rfl
 refine one_ (i := 4) (N := some 7) #[t_,t_,t_,t_,t_,f_,f_] rfl rfl (by kernel_rfl) (by decide) (fun K hK => ?_)
 refine gs_ Try.func112 #[.slice A0_1 l0_1.length c0_1] ?_
 with_reducible refine (spec_l4All.calls k _ _ l0_1 t712 _ ?side1 ?side2 A2.out).mono ?_
 (case side1 => exact cp_ ((Kd.C_below HR0_1.out HB.out)))
 (case side2 => exact HC0_1.out)
 rintro e w6 ⟨v713, rfl, ho0, hb⟩
 refine ⟨_, rfl, ?_⟩
 have HO714 := Aside0.mk (Kd.S_lower ho0 (below_size (hs_ HB.out)))
 replace BK710 := bk2_ BK710 hb
 replace BK711 := bk2_ BK711 hb
 replace HB := st_ HB hb
 (try clear hb)
 (try clear hk)
 (try clear ho0)
 obtain ⟨Ao7, co7, eo7⟩ := Kd.S_slice HO714.out
 (first | subst eo7 | (obtain ⟨rfl, rfl⟩ := si_ eo7))
 refine hK.out _ _ ⟨bx_ BK710.out 0, bx_ BK710.out 1⟩ (fun hHeld => ?_)
 clear hK K
 refine norm_ (a' := ?_) ?_ ?_
 rotate_left
 ·
  show Act.put _ (some 7) _ = _
  simp only [fr_]
  rfl
 refine pure_ (i := 5) (N := some 8) (v := ?_) (a' := ?_) #[t_,t_,t_,t_,t_,t_,f_] rfl rfl (by kernel_rfl) (fun _ _ _ h => h) (Or.inl ⟨by rfl, ?_⟩) ?_ ?_
 rotate_left
 ·
  intro w'
  go_simp
  with_reducible rfl
 rotate_left
 ·
  simp only [fr_]
  rfl
 refine one_ (i := 6) (N := none) #[t_,t_,t_,t_,t_,t_,t_] rfl rfl (by kernel_rfl) (by decide) (fun K hK => ?_)
 have hs8 : w6.cell? ⟨gb711, 0, none⟩ = some (.int .i64 0) := bx_ BK711.out 0
 have hfs8 := blk_frozen BK711.out 0
 have hns8_0 := NB710_711.out
 have hms8_0 := NB711_710.out
 have hs9 : w6.cell? ⟨gb711, 1, none⟩ = some (.slice none 0 0) := bx_ BK711.out 1
 have hfs9 := blk_frozen BK711.out 1
 have hns9_0 := NB710_711.out
 have hms9_0 := NB711_710.out
 refine skip_ (w1 := ?_) (by rfl) rfl ?_ ?_
 rotate_left
 ·
  go_simp
  rfl
 refine hK.out _ _ ⟨(cg_ (hHeld.1)), (cg_ (hHeld.2))⟩ (fun hHeld => ?_)
 clear hK K
 refine done_ (by kernel_rfl) ?_
 try go_wp2
 refine bodyPost_ret (results_cell_row rfl _ _ gb711 100 #[.int .i64 a0_0, .slice Ao7 t712.length co7] (0, 0) _ rfl (bp_ BK711.out) Try.underlying100 rfl (by kernel_rfl)) rfl ?_
 exact ⟨_, by first | rfl | (simp [errW_none, errW_some] <;> rfl) | (simp [*, errW_none, errW_some] <;> rfl), by (with_reducible repeat (first | apply Kd.S_alloc | apply Kd.S_drewN | apply Kd.S_drew)); exact Kd.S_mono (sf_ gb711 (Kd.S_types HO714.out BK711.out (by decide)) (fun _ hk => hk.2)) (fun _ hk => trivial), by exact hs_ HB.out⟩
def spec_l7Copy.l0 : Nat → Int → Int → Int → List (S100) → Int → Int → List (S100) → Option (Int × Int × (List (S100)))
 | 0, _, _, _, _, _, _, _ => none
 | k + 1, x4, x716000, x716001, x716002, x721000, x721001, x721002 => if x4 < (x716002.length : Int) then (if 0 ≤ x4 then ((spec_l6Copy.f k ((rd_T100 x716002 x4).f0) ((rd_T100 x716002 x4).f1)).bind fun bt722 => (if x721002.length < 4398046511104 then (spec_l7Copy.l0 k (wrap64 (x4 + 1)) x716000 x716001 x716002 x721000 x721001 (x721002 ++ [(⟨bt722.1, bt722.2⟩ : S100)])) else (none))) else (none)) else (some (x721000, x721001, x721002))
def spec_l7Copy.f (k : Nat) (a0_0 : Int) (a0_1 : Int) (l0_2 : List (S100)) : Option (Int × Int × (List (S100))) := spec_l7Copy.l0 k 0 a0_0 a0_1 l0_2 a0_0 a0_1 (([] : List (S100)))
theorem spec_l7Copy.mono_l : ∀ k, (∀ y0 y1 y2 y3 y4 y5 y6, LeO (spec_l7Copy.l0 k y0 y1 y2 y3 y4 y5 y6) (spec_l7Copy.l0 (k + 1) y0 y1 y2 y3 y4 y5 y6))
 | 0 => fun _ _ _ _ _ _ _ r h => by simp [spec_l7Copy.l0] at h
 | k + 1 => by
  have ih0 := spec_l7Copy.mono_l k
  intro y0 y1 y2 y3 y4 y5 y6
  unfold spec_l7Copy.l0
  repeat' first
  | (with_reducible exact ih0 _ _ _ _ _ _ _)
  | (with_reducible exact spec_l6Copy.mono _ _ _)
  | (with_reducible exact LeO.refl _)
  | (with_reducible exact LeO.none _)
  | (with_reducible refine LeO.ite ?_ ?_)
  | (with_reducible refine LeO.bind ?_ (fun _ => ?_))
  | exact ih0 _ _ _ _ _ _ _
  | exact spec_l6Copy.mono _ _ _
theorem spec_l7Copy.mono : ∀ a0 a1 a2 k, LeO (spec_l7Copy.f k a0 a1 a2) (spec_l7Copy.f (k + 1) a0 a1 a2) := by
 intro a0 a1 a2 k
 have ih0 := spec_l7Copy.mono_l k
 unfold spec_l7Copy.f
 repeat' first | (with_reducible first | exact ih0 _ _ _ _ _ _ _ | exact spec_l6Copy.mono _ _ _ | exact LeO.refl _ | exact LeO.none _ | refine LeO.ite ?_ ?_ | refine LeO.bind ?_ (fun _ => ?_)) | exact ih0 _ _ _ _ _ _ _ | exact spec_l6Copy.mono _ _ _
theorem spec_l7Copy.calls (k : Nat) (a0_0 : Int) (a0_1 : Int) (A0_2 : Option Addr) (c0_2 : Nat) (l0_2 : List (S100)) (r1 : Int) (r2 : Int) (r3 : List (S100)) (w : World) (hr0_2 : Kd.C k100 w A0_2 l0_2.length l0_2) (hc0_2 : l0_2.length ≤ c0_2) (h : spec_l7Copy.f k a0_0 a0_1 l0_2 = some (r1, r2, r3)) :
  Calls Try.prog 84 #[.agg #[.int .i64 a0_0, .int .i64 a0_1, .slice A0_2 l0_2.length c0_2]] w fun e w' => ∃ v2_ : Value, e = .returned (.agg #[.int .i64 r1, .int .i64 r2, v2_]) ∧ Kd.S k100 100 w' w.heap.size (fun _ => True) v2_ r3 ∧ Below w.heap.size w w' := by
 have hu57 := Try.underlying57
 have hu100 := Try.underlying100
 have HR0_2 := Aside0.mk hr0_2
 have HC0_2 := Aside0.mk hc0_2
 clear hr0_2 hc0_2
 have HB := Aside0.mk (Below.refl w.heap.size w)
 have H : (spec_l7Copy.l0 k 0 a0_0 a0_1 l0_2 a0_0 a0_1 (([] : List (S100)))) = some (r1, r2, r3) := h
 clear h
 obtain ⟨y717, hy717⟩ : ∃ y_ : List (S100), y_ = (([] : List (S100))) := ⟨_, rfl⟩
 replace H : (spec_l7Copy.l0 k 0 a0_0 a0_1 l0_2 a0_0 a0_1 y717) = some (r1, r2, r3) := by first | (rw [hy717]; with_reducible exact H) | (have H2_ := (Option.bind_some _ _).symm.trans H; rw [hy717]; with_reducible exact H2_) | (have H2_ := (Option.bind_some _ _).symm.trans H; with_reducible exact H2_) | with_reducible exact H | (rw [hy717]; exact H) | exact H
 have Ny717 := Aside0.mk hy717
 clear hy717
 have H' := Aside0.mk H
 clear H
 go_enter Try.func84, Try.ntmps84
 go_wp2_with (first | ((with_reducible refine gd_ 1 rfl ?_); refine bv_ 1 #[.int .i64 a0_0, .int .i64 a0_1, .slice A0_2 l0_2.length c0_2] 57 ?_; intro gb715 hg w2 hbox hb; have BK715 := Aside0.mk (hbox); have GW715 := Aside0.mk ((gw_ hg (hs_ HB.out))); replace HB := st_ HB hb; have GE715 := Ge_.mk GW715.out; clear hb hbox hg) | ((with_reducible refine gd_ 2 rfl ?_); refine bv_ 2 #[.int .i64 0, .int .i64 0, .slice none 0 0] 57 ?_; intro gb716 hg w3 hbox hb; have BK716 := Aside0.mk (hbox); have GW716 := Aside0.mk ((gw_ hg (hs_ HB.out))); replace HB := st_ HB hb; have GE716 := Ge_.mk GW716.out; have NB715_716 := Ne_.mk (nl_ BK715.out hg); replace BK715 := bk2_ BK715 hb; have NB716_715 := Ne_.mk (NB715_716.out.symm); clear hb hbox hg; have hnb4 := NB715_716.out; have hnc4 := NB716_715.out; obtain ⟨z5_0, z5_1, z5_2, y5_0, y5_1, y5_2⟩ := bc3_ BK715.out) | ((with_reducible refine gd_ 10 rfl ?_); refine Kd.S_lit k100 _ 100 ?hg (N := 10) ?hd (xs := ([] : List (S100))) (inner := []) (ok := fun _ => True) (okp := fun _ => True) ?hr ?hp (fun _ hk => hk) trivial (Below.refl _ _) (Nat.le_refl _) (by simp) ?_; (case hd => rfl); (case hg => rfl); (case hr => first | (go_simp; done) | (go_simp; rfl)); (case hp => exact (Reps.none _ _)); intro v718 w6 ho7 hb hg_ hnew_; clear hg_ hnew_; (first | rw [← Ny717.out] at ho7 | (simp only [Int.reduceToNat] at ho7; rw [← Ny717.out] at ho7)); have HO719 := Aside0.mk (Kd.S_lower ho7 (below_size (hs_ HB.out))); replace BK715 := bk2_ BK715 hb; replace BK716 := bk2_ BK716 hb; replace HB := st_ HB hb; clear hb ho7; obtain ⟨Ao8, co8, eo8⟩ := Kd.S_slice HO719.out; subst eo8) | ((with_reducible refine gd_ 3 rfl ?_); refine bv_ 3 #[.int .i64 0, .int .i64 0, .slice none 0 0] 57 ?_; intro gb720 hg w9 hbox hb; replace HO719 := Aside0.mk (Kd.S_below (sp_ HO719.out) hb); have BK720 := Aside0.mk (hbox); have GW720 := Aside0.mk ((gw_ hg (hs_ HB.out))); replace HB := st_ HB hb; have GE720 := Ge_.mk GW720.out; have NB715_720 := Ne_.mk (nl_ BK715.out hg); replace BK715 := bk2_ BK715 hb; have NB720_715 := Ne_.mk (NB715_720.out.symm); have NB716_720 := Ne_.mk (nl_ BK716.out hg); replace BK716 := bk2_ BK716 hb; have NB720_716 := Ne_.mk (NB716_720.out.symm); clear hb hbox hg; have hnb10 := NB720_715.out; have hnc10 := NB715_720.out; have hnb11 := NB720_716.out; have hnc11 := NB716_720.out; obtain ⟨z12_0, z12_1, z12_2, y12_0, y12_1, y12_2⟩ := bc3_ BK720.out))
 go_loopg [4] k (fun kq v4 w' => ∃ (x4_1 : Int) (x721002_1 : List (S100)) (u721002 : Value), v4 = .int .i64 x4_1 ∧ Aside0 (spec_l7Copy.l0 kq x4_1 a0_0 a0_1 l0_2 a0_0 a0_1 x721002_1 = some (r1, r2, r3)) ∧ Aside0 (kq ≤ k) ∧ Aside0 (Kd.S k100 100 w' w.heap.size (fun _ => True) u721002 x721002_1) ∧ Aside0 (w'.heap[gb715]? = some (.cells #[.int .i64 a0_0, .int .i64 a0_1, (.slice A0_2 l0_2.length c0_2)] 57 (0, 0))) ∧ Aside0 (w'.heap[gb716]? = some (.cells #[.int .i64 0, .int .i64 0, (.slice none 0 0)] 57 (0, 0))) ∧ Aside0 (w'.heap[gb720]? = some (.cells #[.int .i64 a0_0, .int .i64 a0_1, u721002] 57 (0, 0))) ∧ Aside0 (Below w.heap.size w w'))
 case atStart => exact ⟨(0), (y717), (.slice Ao8 y717.length co8), (by first | rfl | (simp; done) | (simp [*]; done)), H', ⟨Nat.le_refl _⟩, ⟨by (with_reducible repeat (first | apply Kd.S_alloc | apply Kd.S_drewN | apply Kd.S_drew)); exact Kd.S_mono (sf_ gb720 (Kd.S_types HO719.out BK720.out (by decide)) (fun _ hk => hk.2)) (fun _ hk => trivial)⟩, ⟨bq_ BK715.out⟩, ⟨bq_ BK716.out⟩, ⟨bp_ BK720.out⟩, ⟨by exact hs_ HB.out⟩⟩
 case round =>
  clear H'
  try clear c1
  try clear p2
  try clear c4
  try clear c8
  try clear c10
  try clear c11
  try clear z12_0 z12_1 z12_2
  try clear z5_0 z5_1 z5_2
  try clear y12_0 y12_1 y12_2
  try clear y5_0 y5_1 y5_2
  obtain ⟨x4_1, x721002_1, u721002, rfl, HA, HK1, HO_721002, BK715, BK716, BK720, HB⟩ := hrel
  cases gk with
  | zero => exact absurd HA.out (by simp [spec_l7Copy.l0])
  | succ k1 =>
   have H := HA.out
   clear HA
   simp only [spec_l7Copy.l0] at H
   by_cases c13 : x4_1 < (l0_2.length : Int)
   ·
    rw [if_pos c13] at H
    have c13b0 := decide_eq_true c13
    clear c13
    by_cases c14 : 0 ≤ x4_1
    ·
     rw [if_pos c14] at H
     have c14b0 := decide_eq_true c14
     clear c14
     replace H := Option.bind_eq_some_iff.mp H
     obtain ⟨⟨t722, t723⟩, A150, H⟩ := H
     have A15 := Aside0.mk A150
     clear A150
     by_cases c16 : x721002_1.length < 4398046511104
     ·
      rw [if_pos c16] at H
      have LMc16 := Aside0.mk c16
      clear c16
      obtain ⟨y727, hy727⟩ : ∃ y_ : List (S100), y_ = (x721002_1 ++ [(⟨t722, t723⟩ : S100)]) := ⟨_, rfl⟩
      replace H : (spec_l7Copy.l0 k1 (wrap64 (x4_1 + 1)) a0_0 a0_1 l0_2 a0_0 a0_1 y727) = some (r1, r2, r3) := by first | (rw [hy727]; with_reducible exact H) | (have H2_ := (Option.bind_some _ _).symm.trans H; rw [hy727]; with_reducible exact H2_) | (have H2_ := (Option.bind_some _ _).symm.trans H; with_reducible exact H2_) | with_reducible exact H | (rw [hy727]; exact H) | exact H
      have Ny727 := Aside0.mk hy727
      clear hy727
      have H' := Aside0.mk H
      clear H
      have hnb17 := NB715_716.out
      have hnc17 := NB716_715.out
      have hnb18 := NB715_720.out
      have hnc18 := NB720_715.out
      obtain ⟨z19_0, z19_1, z19_2, y19_0, y19_1, y19_2⟩ := bc3_ BK715.out
      have p721 : 0 ≤ (x4_1 : Int) := of_decide_eq_true (by with_reducible assumption)
      have q721 : x4_1 < (l0_2.length : Int) := of_decide_eq_true (by with_reducible assumption)
      obtain ⟨ad721, A721_1, c721_1, e721, hx721_0, hx721_1, hl721_1, hi721_1⟩ := at_T100 HR0_2.out x4_1 p721 q721
      cases e721
      replace hx721_0 := cl_ HB.out hx721_0
      replace hx721_1 := cl_ HB.out hx721_1
      have HR721_1 := Aside0.mk hi721_1
      have HC721_1 := Aside0.mk hl721_1
      clear hi721_1 hl721_1
      replace p721 := eq_true p721
      replace q721 := eq_true q721
      go_wp2_with (first | ((with_reducible refine gate_callee (f := 108) rfl ?_); refine gl_ (some 24) Try.func108 #[.agg #[.int .i64 ((rd_T100 l0_2 x4_1).f0), .slice A721_1 ((rd_T100 l0_2 x4_1).f1).length c721_1]] ?_; (with_reducible refine (spec_l6Copy.calls k1 ((rd_T100 l0_2 x4_1).f0) _ _ ((rd_T100 l0_2 x4_1).f1) t722 t723 _ ?side1 ?side2 A15.out).mono ?_); (case side1 => exact cp_ ((Kd.C_below HR721_1.out HB.out))); (case side2 => exact HC721_1.out); rintro e w20 ⟨v724, rfl, ho0, hb⟩; refine ⟨_, rfl, ?_⟩; obtain ⟨gbz724, hz724⟩ := Kd.S_name ho0; replace HO_721002 := Aside0.mk (Kd.S_below (Kd.S_ltz hz724 (sp_ HO_721002.out)) hb); have HO725 := Aside0.mk (Kd.S_lower (Kd.S_gez hz724 ho0) (below_size (hs_ HB.out))); replace BK715 := bk2_ BK715 hb; replace BK716 := bk2_ BK716 hb; replace BK720 := bk2_ BK720 hb; replace HB := st_ HB hb; (try clear hb); (try clear hk); (try clear ho0)) | ((with_reducible refine gd_ 5 rfl ?_); refine bv_ 5 #[.int .i64 0, .slice none 0 0] 100 ?_; intro gb726 hg w21 hbox hb; replace HO_721002 := Aside0.mk (Kd.S_below (Kd.S_elderB (sp_ HO_721002.out) gb726 (Nat.le_of_eq hg.symm)) hb); replace HO725 := Aside0.mk (Kd.S_below (sp_ HO725.out) hb); have BK726 := Aside0.mk (hbox); have GW726 := Aside0.mk ((gw_ hg (hs_ HB.out))); replace HB := st_ HB hb; have GE726 := Ge_.mk GW726.out; have NB715_726 := Ne_.mk (nl_ BK715.out hg); replace BK715 := bk2_ BK715 hb; have NB726_715 := Ne_.mk (NB715_726.out.symm); have NB716_726 := Ne_.mk (nl_ BK716.out hg); replace BK716 := bk2_ BK716 hb; have NB726_716 := Ne_.mk (NB716_726.out.symm); have NB720_726 := Ne_.mk (nl_ BK720.out hg); replace BK720 := bk2_ BK720 hb; have NB726_720 := Ne_.mk (NB720_726.out.symm); clear hb hbox hg; have hnb22 := NB726_715.out; have hnc22 := NB715_726.out; have hnb23 := NB726_716.out; have hnc23 := NB716_726.out; have hnb24 := NB726_720.out; have hnc24 := NB720_726.out; obtain ⟨z25_0, z25_1, y25_0, y25_1⟩ := bc2_ BK726.out; obtain ⟨Ao26, co26, eo26⟩ := Kd.S_slice HO725.out; subst eo26) | ((with_reducible refine gate_store (t := 100) (p := 5) rfl ?_); refine store_event (t := 100) (p := 5) (v := ?vo_w27) (w1 := ((w21.setCell ⟨gb726, 0, none⟩ (.int .i64 t722)).setCell ⟨gb726, 1, none⟩ (.slice Ao26 t723.length co26))) ?hg ?ho ?hn ?hr ?_; (case ho => rfl); (case hg => rfl); (case hn => rfl); (case hr => first | (go_simp; done) | (go_simp; rfl)); intro w27 hw; replace HO_721002 : Aside0 (Kd.S k100 100 w27 w.heap.size (fun k_ => k_ < gbz724 ∧ k_ ≠ gb726) u721002 x721002_1) := ⟨(by rw [hw]; exact (Kd.S_mono (sf_ gb726 (Kd.S_mono HO_721002.out (fun k_ hk => (⟨hk, hk.2⟩ : _ ∧ k_ ≠ gb726))) (fun _ hk => hk.2)) (fun _ hk => ⟨hk.1.1.2, hk.1.2⟩)))⟩; replace HO725 : Aside0 (Kd.S k43 43 w27 w.heap.size (fun k_ => gbz724 ≤ k_) (.slice Ao26 t723.length co26) t723) := ⟨(by rw [hw]; exact (Kd.S_mono (sf_ gb726 (Kd.S_types HO725.out BK726.out (by decide)) (fun _ hk => hk.2)) (fun _ hk => hk.1.2)))⟩; replace BK715 : Aside0 (w27.heap[gb715]? = some (.cells #[.int .i64 a0_0, .int .i64 a0_1, .slice (some ad721) l0_2.length c0_2] 57 (0, 0))) := ⟨(by rw [hw]; exact (bq_ BK715.out))⟩; replace BK716 : Aside0 (w27.heap[gb716]? = some (.cells #[.int .i64 0, .int .i64 0, .slice none 0 0] 57 (0, 0))) := ⟨(by rw [hw]; exact (bq_ BK716.out))⟩; replace BK720 : Aside0 (w27.heap[gb720]? = some (.cells #[.int .i64 a0_0, .int .i64 a0_1, u721002] 57 (0, 0))) := ⟨(by rw [hw]; exact (bq_ BK720.out))⟩; replace BK726 : Aside0 (w27.heap[gb726]? = some (.cells #[.int .i64 t722, .slice Ao26 t723.length co26] 100 (0, 0))) := ⟨(by rw [hw]; exact (bp_ BK726.out))⟩; replace HB : Aside0 (Below w.heap.size w w27) := ⟨(by rw [hw]; exact (hs_ HB.out))⟩; clear hw; have hnb28 := NB720_716.out; have hnc28 := NB716_720.out; obtain ⟨z29_0, z29_1, z29_2, y29_0, y29_1, y29_2⟩ := bc3_ BK720.out; obtain ⟨z30_0, z30_1, y30_0, y30_1⟩ := bc2_ BK726.out; obtain ⟨PXP32, hPXP32, hPlP32⟩ := Kd.S_fp (Kd.S_types (Kd.S_apart' (HO725.out) (Kd.S_typed HO_721002.out) (by decide)) BK726.out (by decide))) | ((with_reducible refine gate_builtin (b := .append) (xs := #[.tmp 26, .tmp 28]) rfl ?_); at_builtin; refine Kd.S_append k100 (w0 := w) w.heap.size rfl (.tmp 26) (.tmp 28) 55 100 (.agg #[(.int .i64 0), (.slice none 0 0)]) 32 rfl Try.underlying55 info100 rfl (by decide) (by omega) u721002 x721002_1 (⟨t722, t723⟩ : S100) [.int .i64 t722, .slice Ao26 t723.length co26] (fun k_ => k_ ≠ gb726) (fun k_ => PXP32 k_) rfl rfl ?aP (fun k_ hk_ => ⟨(hPlP32 k_ hk_).1.2, (hPlP32 k_ hk_).1.1.2⟩) ?aF ?aO ?aB ?aS ?aL ?_; (case aP => exact k100_mkM _ _ _ (⟨t722, t723⟩ : S100) (Kd.S_mono hPXP32 (fun _ h_ => h_))); (case aB => exact (hs_ HB.out)); (case aF => exact (fun k_ hk => Kd.freshB (g := gb726) (o := .cells #[.int .i64 t722, .slice Ao26 t723.length co26] 100 (0, 0)) (pb_ BK726.out) k_ hk)); (case aO => exact (Kd.S_mono (sp_ HO_721002.out) (fun k_ hk => ⟨hk.2, fun e_ => (fun ez_ => Nat.lt_irrefl _ (Nat.lt_of_lt_of_le hk.1 (hPlP32 _ ez_).1.1.1)) e_⟩))); (case aS => exact (below_size (hs_ HB.out))); (case aL => have := LMc16.out; omega); intro v728 w31 ho hb hg hat; rw [← Ny727.out] at ho; replace BK715 := Aside0.mk (blk_grown (bq_ BK715.out) hg (Kd.S_ne HO_721002.out BK715.out (by decide))); replace BK716 := Aside0.mk (blk_grown (bq_ BK716.out) hg (Kd.S_ne HO_721002.out BK716.out (by decide))); replace BK720 := Aside0.mk (blk_grown (bq_ BK720.out) hg (Kd.S_ne HO_721002.out BK720.out (by decide))); replace BK726 := Aside0.mk (blk_grown (bq_ BK726.out) hg (Kd.S_away HO_721002.out (fun _ hk => hk.2))); replace HB := Aside0.mk (hb); have HO729 := Aside0.mk (ho); clear HO_721002 HO725; clear ho hb hg hat; obtain ⟨Ao33, co33, eo33⟩ := Kd.S_slice HO729.out; subst eo33; obtain ⟨z34_0, z34_1, z34_2, y34_0, y34_1, y34_2⟩ := bc3_ BK720.out))
      go_roundg k1
      case measure => have := HK1.out; omega
      case rel => exact ⟨(wrap64 (x4_1 + 1)), (y727), (.slice Ao33 y727.length co33), (by first | rfl | (simp; done) | (simp [*]; done)), H', ⟨by have := HK1.out; omega⟩, ⟨by (with_reducible repeat (first | apply Kd.S_alloc | apply Kd.S_drewN | apply Kd.S_drew)); exact Kd.S_mono (sf_ gb720 (Kd.S_types HO729.out BK720.out (by decide)) (fun _ hk => hk.2)) (fun _ hk => trivial)⟩, ⟨bq_ BK715.out⟩, ⟨bq_ BK716.out⟩, ⟨bp_ BK720.out⟩, ⟨by exact hs_ HB.out⟩⟩
     rw [if_neg c16] at H
     exact absurd H (by simp)
    rw [if_neg c14] at H
    exact absurd H (by simp)
   rw [if_neg c13] at H
   have c13b0 : decide (x4_1 < (l0_2.length : Int)) = false := decide_eq_false c13
   clear c13
   simp only [Option.some.injEq, Prod.mk.injEq] at H
   obtain ⟨rfl, rfl, rfl⟩ := H
   have hnb35 := NB715_716.out
   have hnc35 := NB716_715.out
   have hnb36 := NB715_720.out
   have hnc36 := NB720_715.out
   obtain ⟨z37_0, z37_1, z37_2, y37_0, y37_1, y37_2⟩ := bc3_ BK715.out
   have hnb38 := NB720_716.out
   have hnc38 := NB716_720.out
   obtain ⟨z39_0, z39_1, z39_2, y39_0, y39_1, y39_2⟩ := bc3_ BK720.out
   obtain ⟨z40_0, z40_1, z40_2, y40_0, y40_1, y40_2⟩ := bc3_ BK716.out
   obtain ⟨Ao41, co41, eo41⟩ := Kd.S_slice HO_721002.out
   subst eo41
   go_wp2
   refine bodyPost_ret (results_cell_row rfl _ _ gb716 57 #[.int .i64 a0_0, .int .i64 a0_1, .slice Ao41 x721002_1.length co41] (0, 0) _ rfl (bp_ BK716.out) Try.underlying57 rfl (by kernel_rfl)) rfl ?_
   exact ⟨_, by first | rfl | (simp [errW_none, errW_some] <;> rfl) | (simp [*, errW_none, errW_some] <;> rfl), by (with_reducible repeat (first | apply Kd.S_alloc | apply Kd.S_drewN | apply Kd.S_drew)); exact Kd.S_mono (sf_ gb716 (Kd.S_types HO_721002.out BK716.out (by decide)) (fun _ hk => hk.2)) (fun _ hk => trivial), by exact hs_ HB.out⟩
theorem eqA88 (d : Nat) (w : World) (x0 y0 : ByteArray) (x1 y1 : ByteArray) :
  (Op.equalIn (d + 2) 88 (.agg #[.string x0, .string x1]) (.agg #[.string y0, .string y1])).run Try.prog w = .ok (x0.toList == y0.toList && (x1.toList == y1.toList)) w := by
 refine eqA_of Try.underlying88 (by kernel_rfl) ?_
 refine eqf_cons (by rfl) (by go_simp; rfl) (by go_simp; rfl) (by go_simp) ?_
 exact eqf_last (by rfl) (by go_simp; rfl) (by go_simp; rfl) (by go_simp)
end Go.Proofs.Yticgekgojgkbgaa.Print
end
section
namespace Go.Proofs.Yticgekgojgkbgaa.Print
open Go.RowKit Go.Proofs.YticgekgojgkbgaaV.PrintWords Go.Proofs.YticgekgojgkbgaaV.PrintLast Go.Proofs.YticgekgojgkbgaaV.PrintMore
attribute [local go_sem] max2_int min2_int max_two min_two max_three min_three max_four min_four
set_option linter.unusedVariables false
set_option linter.unusedSimpArgs false

attribute [local go_sem high] eqA88
set_option maxHeartbeats 8000000
set_option maxRecDepth 100000
def spec_SameSet.l0 : Nat → List (S88) → List (S88) → Int → Option (Bool)
 | 0, _, _, _ => none
 | k + 1, x0, x1, x5 => if x5 < (x0.length : Int) then (if 0 ≤ x5 then (if x5 < (x1.length : Int) then (if (!((((rd_T88 x0 x5).f0).toList) == (((rd_T88 x1 x5).f0).toList)) || (!((((rd_T88 x0 x5).f1).toList) == (((rd_T88 x1 x5).f1).toList)))) = true then (some false) else (spec_SameSet.l0 k x0 x1 (wrap64 (x5 + 1)))) else (none)) else (none)) else (some true)
def spec_SameSet.f (k : Nat) (l0 : List (S88)) (l1 : List (S88)) : Option (Bool) := if (l0.length : Int) = (l1.length : Int) then (spec_SameSet.l0 k l0 l1 0) else (some false)
theorem spec_SameSet.mono_l : ∀ k, (∀ y0 y1 y2, LeO (spec_SameSet.l0 k y0 y1 y2) (spec_SameSet.l0 (k + 1) y0 y1 y2))
 | 0 => fun _ _ _ r h => by simp [spec_SameSet.l0] at h
 | k + 1 => by
  have ih0 := spec_SameSet.mono_l k
  intro y0 y1 y2
  unfold spec_SameSet.l0
  repeat' first
  | (with_reducible exact ih0 _ _ _)
  | (with_reducible exact LeO.refl _)
  | (with_reducible exact LeO.none _)
  | (with_reducible refine LeO.ite ?_ ?_)
  | (with_reducible refine LeO.bind ?_ (fun _ => ?_))
  | exact ih0 _ _ _
theorem spec_SameSet.mono : ∀ a0 a1 k, LeO (spec_SameSet.f k a0 a1) (spec_SameSet.f (k + 1) a0 a1) := by
 intro a0 a1 k
 have ih0 := spec_SameSet.mono_l k
 unfold spec_SameSet.f
 repeat' first | (with_reducible first | exact ih0 _ _ _ | exact LeO.refl _ | exact LeO.none _ | refine LeO.ite ?_ ?_ | refine LeO.bind ?_ (fun _ => ?_)) | exact ih0 _ _ _
theorem spec_SameSet.calls (k : Nat) (A0 : Option Addr) (c0 : Nat) (l0 : List (S88)) (A1 : Option Addr) (c1 : Nat) (l1 : List (S88)) (r : Bool) (w : World) (hr0 : Kd.C k88 w A0 l0.length l0) (hc0 : l0.length ≤ c0) (hr1 : Kd.C k88 w A1 l1.length l1) (hc1 : l1.length ≤ c1) (h : spec_SameSet.f k l0 l1 = some r) :
  Calls Try.prog 101 #[.slice A0 l0.length c0, .slice A1 l1.length c1] w fun e w' => e = .returned (.bool r) ∧ Drawn0 w w' := by
 have hu88 := Try.underlying88
 have HR0 := Aside0.mk hr0
 have HC0 := Aside0.mk hc0
 clear hr0 hc0
 have HR1 := Aside0.mk hr1
 have HC1 := Aside0.mk hc1
 clear hr1 hc1
 have H : (if (l0.length : Int) = (l1.length : Int) then (spec_SameSet.l0 k l0 l1 0) else (some false)) = some r := h
 clear h
 by_cases c3 : (l0.length : Int) = (l1.length : Int)
 ·
  rw [if_pos c3] at H
  have c3b0 : ((l0.length : Int) == (l1.length : Int)) = true := beq_iff_eq.mpr c3
  have c3b1 : ((l0.length : Int) != (l1.length : Int)) = false := bne_eq_false_iff_eq.mpr c3
  have c3b2 : (l0.length == l1.length) = true := by first | simpa using c3 | (simp at c3 ⊢; omega)
  clear c3
  have H' := Aside0.mk H
  clear H
  go_enter Try.func101, Try.ntmps101
  go_wp2
  repeat (go_quiet (fail); try go_wp2)
  go_loopg [5] k (fun kq v5 w' => ∃ (x5_1 : Int), v5 = .int .i64 x5_1 ∧ Aside0 (spec_SameSet.l0 kq l0 l1 x5_1 = some r) ∧ Aside0 (kq ≤ k) ∧ Drawn0 w w')
  case atStart => exact ⟨(0), (by first | rfl | (simp; done) | (simp [*]; done)), H', ⟨Nat.le_refl _⟩, by repeat (first | exact Drawn0.refl _ | apply Drawn0.step)⟩
  case round =>
   clear H'
   try clear c1
   try clear p2
   try clear c3
   try clear c3b0
   try clear c3b1
   try clear c3b2
   obtain ⟨x5_1, rfl, HA, HK1, ⟨m1, rfl⟩⟩ := hrel
   cases gk with
   | zero => exact absurd HA.out (by simp [spec_SameSet.l0])
   | succ k1 =>
    have H := HA.out
    clear HA
    simp only [spec_SameSet.l0] at H
    by_cases c4 : x5_1 < (l0.length : Int)
    ·
     rw [if_pos c4] at H
     have c4b0 := decide_eq_true c4
     clear c4
     by_cases c5 : 0 ≤ x5_1
     ·
      rw [if_pos c5] at H
      have c5b0 := decide_eq_true c5
      clear c5
      by_cases c6 : x5_1 < (l1.length : Int)
      ·
       rw [if_pos c6] at H
       have c6b0 := decide_eq_true c6
       clear c6
       by_cases c7 : (!((((rd_T88 l0 x5_1).f0).toList) == (((rd_T88 l1 x5_1).f0).toList)) || (!((((rd_T88 l0 x5_1).f1).toList) == (((rd_T88 l1 x5_1).f1).toList)))) = true
       ·
        rw [if_pos c7] at H
        have c7b0 : (!((((rd_T88 l0 x5_1).f0).toList) == (((rd_T88 l1 x5_1).f0).toList)) || (!((((rd_T88 l0 x5_1).f1).toList) == (((rd_T88 l1 x5_1).f1).toList)))) = true := c7
        clear c7
        obtain rfl := Option.some.inj H
        have p379 : 0 ≤ (x5_1 : Int) := of_decide_eq_true (by with_reducible assumption)
        have q379 : x5_1 < (l0.length : Int) := of_decide_eq_true (by with_reducible assumption)
        obtain ⟨ad379, e379, hx379_0, hx379_1⟩ := at_T88 HR0.out x5_1 p379 q379
        cases e379
        replace p379 := eq_true p379
        replace q379 := eq_true q379
        have p380 : 0 ≤ (x5_1 : Int) := of_decide_eq_true (by with_reducible assumption)
        have q380 : x5_1 < (l1.length : Int) := of_decide_eq_true (by with_reducible assumption)
        obtain ⟨ad380, e380, hx380_0, hx380_1⟩ := at_T88 HR1.out x5_1 p380 q380
        cases e380
        replace p380 := eq_true p380
        replace q380 := eq_true q380
        go_wp2
        repeat (go_quiet (fail); try go_wp2)
        go_ret
        exact ⟨by first | rfl | (simp; done) | (simp [*]; done), by repeat (first | exact Drawn0.refl _ | apply Drawn0.step)⟩
       rw [if_neg c7] at H
       have c7b0 : (!((((rd_T88 l0 x5_1).f0).toList) == (((rd_T88 l1 x5_1).f0).toList)) || (!((((rd_T88 l0 x5_1).f1).toList) == (((rd_T88 l1 x5_1).f1).toList)))) = false := by simpa using c7
       clear c7
       have H' := Aside0.mk H
       clear H
       have p379 : 0 ≤ (x5_1 : Int) := of_decide_eq_true (by with_reducible assumption)
       have q379 : x5_1 < (l0.length : Int) := of_decide_eq_true (by with_reducible assumption)
       obtain ⟨ad379, e379, hx379_0, hx379_1⟩ := at_T88 HR0.out x5_1 p379 q379
       cases e379
       replace p379 := eq_true p379
       replace q379 := eq_true q379
       have p380 : 0 ≤ (x5_1 : Int) := of_decide_eq_true (by with_reducible assumption)
       have q380 : x5_1 < (l1.length : Int) := of_decide_eq_true (by with_reducible assumption)
       obtain ⟨ad380, e380, hx380_0, hx380_1⟩ := at_T88 HR1.out x5_1 p380 q380
       cases e380
       replace p380 := eq_true p380
       replace q380 := eq_true q380
       go_wp2
       repeat (go_quiet (fail); try go_wp2)
       go_roundg k1
       case measure => have := HK1.out; omega
       case rel => exact ⟨(wrap64 (x5_1 + 1)), (by first | rfl | (simp; done) | (simp [*]; done)), H', ⟨by have := HK1.out; omega⟩, by repeat (first | exact Drawn0.refl _ | apply Drawn0.step)⟩
      rw [if_neg c6] at H
      exact absurd H (by simp)
     rw [if_neg c5] at H
     exact absurd H (by simp)
    rw [if_neg c4] at H
    have c4b0 : decide (x5_1 < (l0.length : Int)) = false := decide_eq_false c4
    clear c4
    obtain rfl := Option.some.inj H
    go_wp2
    repeat (go_quiet (fail); try go_wp2)
    go_ret
    exact ⟨by first | rfl | (simp; done) | (simp [*]; done), by repeat (first | exact Drawn0.refl _ | apply Drawn0.step)⟩
 rw [if_neg c3] at H
 have c3b0 : ((l0.length : Int) == (l1.length : Int)) = false := beq_eq_false_iff_ne.mpr c3
 have c3b1 : ((l0.length : Int) != (l1.length : Int)) = true := bne_iff_ne.mpr c3
 have c3b2 : (l0.length == l1.length) = false := by first | simpa using c3 | (simp at c3 ⊢; omega)
 obtain rfl := Option.some.inj H
 go_enter Try.func101, Try.ntmps101
 go_wp2
 repeat (go_quiet (fail); try go_wp2)
 go_ret
 exact ⟨by first | rfl | (simp; done) | (simp [*]; done), by repeat (first | exact Drawn0.refl _ | apply Drawn0.step)⟩
end Go.Proofs.Yticgekgojgkbgaa.Print
end
section
namespace Go.Proofs.Yticgekgojgkbgaa.Print
open Go.RowKit Go.Proofs.YticgekgojgkbgaaV.PrintWords Go.Proofs.YticgekgojgkbgaaV.PrintLast Go.Proofs.YticgekgojgkbgaaV.PrintMore
attribute [local go_sem] max2_int min2_int max_two min_two max_three min_three max_four min_four
set_option linter.unusedVariables false
set_option linter.unusedSimpArgs false
set_option maxHeartbeats 8000000
set_option maxRecDepth 100000
def spec_InChain.l0 : Nat → List (S88) → Int → Int → List (S43) → Option (Int)
 | 0, _, _, _, _ => none
 | k + 1, x1, x5, x473000, x473001 => if x5 < (x473001.length : Int) then (if 0 ≤ x5 then ((spec_SameSet.f k ((rd_T43 x473001 x5).f0) x1).bind fun t474 => (if t474 = true then (some x5) else (spec_InChain.l0 k x1 (wrap64 (x5 + 1)) x473000 x473001))) else (none)) else (some (-1))
def spec_InChain.f (k : Nat) (a0_0 : Int) (l0_1 : List (S43)) (l1 : List (S88)) : Option (Int) := spec_InChain.l0 k l1 0 a0_0 l0_1
theorem spec_InChain.mono_l : ∀ k, (∀ y0 y1 y2 y3, LeO (spec_InChain.l0 k y0 y1 y2 y3) (spec_InChain.l0 (k + 1) y0 y1 y2 y3))
 | 0 => fun _ _ _ _ r h => by simp [spec_InChain.l0] at h
 | k + 1 => by
  have ih0 := spec_InChain.mono_l k
  intro y0 y1 y2 y3
  unfold spec_InChain.l0
  repeat' first
  | (with_reducible exact ih0 _ _ _ _)
  | (with_reducible exact spec_SameSet.mono _ _ _)
  | (with_reducible exact LeO.refl _)
  | (with_reducible exact LeO.none _)
  | (with_reducible refine LeO.ite ?_ ?_)
  | (with_reducible refine LeO.bind ?_ (fun _ => ?_))
  | exact ih0 _ _ _ _
  | exact spec_SameSet.mono _ _ _
theorem spec_InChain.mono : ∀ a0 a1 a2 k, LeO (spec_InChain.f k a0 a1 a2) (spec_InChain.f (k + 1) a0 a1 a2) := by
 intro a0 a1 a2 k
 have ih0 := spec_InChain.mono_l k
 unfold spec_InChain.f
 repeat' first | (with_reducible first | exact ih0 _ _ _ _ | exact spec_SameSet.mono _ _ _ | exact LeO.refl _ | exact LeO.none _ | refine LeO.ite ?_ ?_ | refine LeO.bind ?_ (fun _ => ?_)) | exact ih0 _ _ _ _ | exact spec_SameSet.mono _ _ _
theorem spec_InChain.calls (k : Nat) (a0_0 : Int) (A0_1 : Option Addr) (c0_1 : Nat) (l0_1 : List (S43)) (A1 : Option Addr) (c1 : Nat) (l1 : List (S88)) (r : Int) (w : World) (hr0_1 : Kd.C k43 w A0_1 l0_1.length l0_1) (hc0_1 : l0_1.length ≤ c0_1) (hr1 : Kd.C k88 w A1 l1.length l1) (hc1 : l1.length ≤ c1) (h : spec_InChain.f k a0_0 l0_1 l1 = some r) :
  Calls Try.prog 76 #[.agg #[.int .i64 a0_0, .slice A0_1 l0_1.length c0_1], .slice A1 l1.length c1] w fun e w' => e = .returned (.int .i64 r) ∧ Below w.heap.size w w' := by
 have hu100 := Try.underlying100
 have HR0_1 := Aside0.mk hr0_1
 have HC0_1 := Aside0.mk hc0_1
 clear hr0_1 hc0_1
 have HR1 := Aside0.mk hr1
 have HC1 := Aside0.mk hc1
 clear hr1 hc1
 have HB := Aside0.mk (Below.refl w.heap.size w)
 have H : (spec_InChain.l0 k l1 0 a0_0 l0_1) = some r := h
 clear h
 have H' := Aside0.mk H
 clear H
 go_enter Try.func76, Try.ntmps76
 go_wp2_with (first | ((with_reducible refine gd_ 2 rfl ?_); refine bv_ 2 #[.int .i64 a0_0, .slice A0_1 l0_1.length c0_1] 100 ?_; intro gb472 hg w3 hbox hb; have BK472 := Aside0.mk (hbox); have GW472 := Aside0.mk ((gw_ hg (hs_ HB.out))); replace HB := st_ HB hb; have GE472 := Ge_.mk GW472.out; clear hb hbox hg))
 go_loopg [5] k (fun kq v5 w' => ∃ (x5_1 : Int), v5 = .int .i64 x5_1 ∧ Aside0 (spec_InChain.l0 kq l1 x5_1 a0_0 l0_1 = some r) ∧ Aside0 (kq ≤ k) ∧ Aside0 (w'.heap[gb472]? = some (.cells #[.int .i64 a0_0, (.slice A0_1 l0_1.length c0_1)] 100 (0, 0))) ∧ Aside0 (Below w.heap.size w w'))
 case atStart => exact ⟨(0), (by first | rfl | (simp; done) | (simp [*]; done)), H', ⟨Nat.le_refl _⟩, ⟨bq_ BK472.out⟩, ⟨by exact hs_ HB.out⟩⟩
 case round =>
  clear H'
  try clear c1
  try clear p2
  obtain ⟨x5_1, rfl, HA, HK1, BK472, HB⟩ := hrel
  cases gk with
  | zero => exact absurd HA.out (by simp [spec_InChain.l0])
  | succ k1 =>
   have H := HA.out
   clear HA
   simp only [spec_InChain.l0] at H
   by_cases c4 : x5_1 < (l0_1.length : Int)
   ·
    rw [if_pos c4] at H
    have c4b0 := decide_eq_true c4
    clear c4
    by_cases c5 : 0 ≤ x5_1
    ·
     rw [if_pos c5] at H
     have c5b0 := decide_eq_true c5
     clear c5
     replace H := Option.bind_eq_some_iff.mp H
     obtain ⟨t474, A60, H⟩ := H
     have A6 := Aside0.mk A60
     clear A60
     by_cases c7 : t474 = true
     ·
      subst c7
      rw [if_pos rfl] at H
      obtain rfl := Option.some.inj H
      obtain ⟨z8_0, z8_1, y8_0, y8_1⟩ := bc2_ BK472.out
      have p473 : 0 ≤ (x5_1 : Int) := of_decide_eq_true (by with_reducible assumption)
      have q473 : x5_1 < (l0_1.length : Int) := of_decide_eq_true (by with_reducible assumption)
      obtain ⟨ad473, A473_0, c473_0, e473, hx473_0, hx473_1, hx473_2, hx473_3, hl473_0, hi473_0⟩ := at_T43 HR0_1.out x5_1 p473 q473
      cases e473
      replace hx473_0 := cl_ HB.out hx473_0
      replace hx473_1 := cl_ HB.out hx473_1
      replace hx473_2 := cl_ HB.out hx473_2
      replace hx473_3 := cl_ HB.out hx473_3
      have HR473_0 := Aside0.mk hi473_0
      have HC473_0 := Aside0.mk hl473_0
      clear hi473_0 hl473_0
      replace p473 := eq_true p473
      replace q473 := eq_true q473
      go_wp2_with (first | ((with_reducible refine gate_callee (f := 101) rfl ?_); refine gl_ (some 20) Try.func101 #[.slice A473_0 ((rd_T43 l0_1 x5_1).f0).length c473_0, .slice A1 l1.length c1] ?_; (with_reducible refine (spec_SameSet.calls k1 _ _ ((rd_T43 l0_1 x5_1).f0) _ _ l1 true _ ?side1 ?side2 ?side3 ?side4 A6.out).mono ?_); (case side1 => exact cp_ ((Kd.C_below HR473_0.out HB.out))); (case side2 => exact HC473_0.out); (case side3 => exact cp_ ((Kd.C_below HR1.out HB.out))); (case side4 => exact HC1.out); rintro e w' ⟨rfl, ⟨nd, rfl⟩⟩; refine ⟨_, rfl, ?_⟩))
      go_ret
      exact an_ (by exact hs_ HB.out)
     replace c7 := Bool.eq_false_iff.mpr c7
     subst c7
     rw [if_neg (show ¬ (false = true) by decide)] at H
     have H' := Aside0.mk H
     clear H
     obtain ⟨z9_0, z9_1, y9_0, y9_1⟩ := bc2_ BK472.out
     have p473 : 0 ≤ (x5_1 : Int) := of_decide_eq_true (by with_reducible assumption)
     have q473 : x5_1 < (l0_1.length : Int) := of_decide_eq_true (by with_reducible assumption)
     obtain ⟨ad473, A473_0, c473_0, e473, hx473_0, hx473_1, hx473_2, hx473_3, hl473_0, hi473_0⟩ := at_T43 HR0_1.out x5_1 p473 q473
     cases e473
     replace hx473_0 := cl_ HB.out hx473_0
     replace hx473_1 := cl_ HB.out hx473_1
     replace hx473_2 := cl_ HB.out hx473_2
     replace hx473_3 := cl_ HB.out hx473_3
     have HR473_0 := Aside0.mk hi473_0
     have HC473_0 := Aside0.mk hl473_0
     clear hi473_0 hl473_0
     replace p473 := eq_true p473
     replace q473 := eq_true q473
     go_wp2_with (first | ((with_reducible refine gate_callee (f := 101) rfl ?_); refine gl_ (some 20) Try.func101 #[.slice A473_0 ((rd_T43 l0_1 x5_1).f0).length c473_0, .slice A1 l1.length c1] ?_; (with_reducible refine (spec_SameSet.calls k1 _ _ ((rd_T43 l0_1 x5_1).f0) _ _ l1 false _ ?side1 ?side2 ?side3 ?side4 A6.out).mono ?_); (case side1 => exact cp_ ((Kd.C_below HR473_0.out HB.out))); (case side2 => exact HC473_0.out); (case side3 => exact cp_ ((Kd.C_below HR1.out HB.out))); (case side4 => exact HC1.out); rintro e w' ⟨rfl, ⟨nd, rfl⟩⟩; refine ⟨_, rfl, ?_⟩))
     go_roundg k1
     case measure => have := HK1.out; omega
     case rel => exact ⟨(wrap64 (x5_1 + 1)), (by first | rfl | (simp; done) | (simp [*]; done)), H', ⟨by have := HK1.out; omega⟩, ⟨bq_ BK472.out⟩, ⟨by exact hs_ HB.out⟩⟩
    rw [if_neg c5] at H
    exact absurd H (by simp)
   rw [if_neg c4] at H
   have c4b0 : decide (x5_1 < (l0_1.length : Int)) = false := decide_eq_false c4
   clear c4
   obtain rfl := Option.some.inj H
   obtain ⟨z10_0, z10_1, y10_0, y10_1⟩ := bc2_ BK472.out
   go_wp2
   go_ret
   exact an_ (by exact hs_ HB.out)
def spec_Touch.f (l0_0 : List (S88)) (a0_1 : Int) (a0_2 : Int) (a0_3 : ByteArray) (l1_0 : List (S88)) (a1_1 : Int) (a1_2 : Int) (a1_3 : ByteArray) : Option (Bool) := if a0_1 ≤ a1_2 then (some (decide (a1_1 ≤ a0_2))) else (some false)
theorem spec_Touch.calls (A0_0 : Option Addr) (c0_0 : Nat) (l0_0 : List (S88)) (a0_1 : Int) (a0_2 : Int) (a0_3 : ByteArray) (A1_0 : Option Addr) (c1_0 : Nat) (l1_0 : List (S88)) (a1_1 : Int) (a1_2 : Int) (a1_3 : ByteArray) (r : Bool) (w : World) (hr0_0 : Kd.C k88 w A0_0 l0_0.length l0_0) (hc0_0 : l0_0.length ≤ c0_0) (hr1_0 : Kd.C k88 w A1_0 l1_0.length l1_0) (hc1_0 : l1_0.length ≤ c1_0) (h : spec_Touch.f l0_0 a0_1 a0_2 a0_3 l1_0 a1_1 a1_2 a1_3 = some r) :
  Calls Try.prog 124 #[.agg #[.slice A0_0 l0_0.length c0_0, .int .i64 a0_1, .int .i64 a0_2, .string a0_3], .agg #[.slice A1_0 l1_0.length c1_0, .int .i64 a1_1, .int .i64 a1_2, .string a1_3]] w fun e w' => e = .returned (.bool r) ∧ Below w.heap.size w w' := by
 have hu43 := Try.underlying43
 have HR0_0 := Aside0.mk hr0_0
 have HC0_0 := Aside0.mk hc0_0
 clear hr0_0 hc0_0
 have HR1_0 := Aside0.mk hr1_0
 have HC1_0 := Aside0.mk hc1_0
 clear hr1_0 hc1_0
 have HB := Aside0.mk (Below.refl w.heap.size w)
 have H : (if a0_1 ≤ a1_2 then (some (decide (a1_1 ≤ a0_2))) else (some false)) = some r := h
 clear h
 by_cases c3 : a0_1 ≤ a1_2
 ·
  rw [if_pos c3] at H
  have c3b0 := decide_eq_true c3
  clear c3
  obtain rfl := Option.some.inj H
  go_enter Try.func124, Try.ntmps124
  go_wp2_with (first | ((with_reducible refine gd_ 2 rfl ?_); refine bv_ 2 #[.slice A0_0 l0_0.length c0_0, .int .i64 a0_1, .int .i64 a0_2, .string a0_3] 43 ?_; intro gb730 hg w4 hbox hb; have BK730 := Aside0.mk (hbox); have GW730 := Aside0.mk ((gw_ hg (hs_ HB.out))); replace HB := st_ HB hb; have GE730 := Ge_.mk GW730.out; clear hb hbox hg) | ((with_reducible refine gd_ 3 rfl ?_); refine bv_ 3 #[.slice A1_0 l1_0.length c1_0, .int .i64 a1_1, .int .i64 a1_2, .string a1_3] 43 ?_; intro gb731 hg w5 hbox hb; have BK731 := Aside0.mk (hbox); have GW731 := Aside0.mk ((gw_ hg (hs_ HB.out))); replace HB := st_ HB hb; have GE731 := Ge_.mk GW731.out; have NB730_731 := Ne_.mk (nl_ BK730.out hg); replace BK730 := bk2_ BK730 hb; have NB731_730 := Ne_.mk (NB730_731.out.symm); clear hb hbox hg; have hnb6 := NB730_731.out; have hnc6 := NB731_730.out; obtain ⟨z7_0, z7_1, z7_2, z7_3, y7_0, y7_1, y7_2, y7_3⟩ := bc4_ BK730.out; obtain ⟨z8_0, z8_1, z8_2, z8_3, y8_0, y8_1, y8_2, y8_3⟩ := bc4_ BK731.out))
  go_ret
  exact an_ (by exact hs_ HB.out)
 rw [if_neg c3] at H
 have c3b0 : decide (a0_1 ≤ a1_2) = false := decide_eq_false c3
 clear c3
 obtain rfl := Option.some.inj H
 go_enter Try.func124, Try.ntmps124
 go_wp2_with (first | ((with_reducible refine gd_ 2 rfl ?_); refine bv_ 2 #[.slice A0_0 l0_0.length c0_0, .int .i64 a0_1, .int .i64 a0_2, .string a0_3] 43 ?_; intro gb730 hg w9 hbox hb; have BK730 := Aside0.mk (hbox); have GW730 := Aside0.mk ((gw_ hg (hs_ HB.out))); replace HB := st_ HB hb; have GE730 := Ge_.mk GW730.out; clear hb hbox hg) | ((with_reducible refine gd_ 3 rfl ?_); refine bv_ 3 #[.slice A1_0 l1_0.length c1_0, .int .i64 a1_1, .int .i64 a1_2, .string a1_3] 43 ?_; intro gb731 hg w10 hbox hb; have BK731 := Aside0.mk (hbox); have GW731 := Aside0.mk ((gw_ hg (hs_ HB.out))); replace HB := st_ HB hb; have GE731 := Ge_.mk GW731.out; have NB730_731 := Ne_.mk (nl_ BK730.out hg); replace BK730 := bk2_ BK730 hb; have NB731_730 := Ne_.mk (NB730_731.out.symm); clear hb hbox hg; have hnb11 := NB730_731.out; have hnc11 := NB731_730.out; obtain ⟨z12_0, z12_1, z12_2, z12_3, y12_0, y12_1, y12_2, y12_3⟩ := bc4_ BK730.out; obtain ⟨z13_0, z13_1, z13_2, z13_3, y13_0, y13_1, y13_2, y13_3⟩ := bc4_ BK731.out))
 go_ret
 exact an_ (by exact hs_ HB.out)
def spec_Least.f (a0 : Int) (a1 : Int) : Option (Int) := if a1 < a0 then (some a1) else (some a0)
theorem spec_Least.calls (a0 : Int) (a1 : Int) (r : Int) (w : World) (h : spec_Least.f a0 a1 = some r) :
  Calls Try.prog 125 #[.int .i64 a0, .int .i64 a1] w fun e w' => e = .returned (.int .i64 r) ∧ Drawn0 w w' := by
 have H : (if a1 < a0 then (some a1) else (some a0)) = some r := h
 clear h
 by_cases c3 : a1 < a0
 ·
  rw [if_pos c3] at H
  have c3b0 := decide_eq_true c3
  clear c3
  obtain rfl := Option.some.inj H
  go_enter Try.func125, Try.ntmps125
  go_wp2
  go_ret
  exact ⟨by first | rfl | (simp; done) | (simp [*]; done), by repeat (first | exact Drawn0.refl _ | apply Drawn0.step)⟩
 rw [if_neg c3] at H
 have c3b0 : decide (a1 < a0) = false := decide_eq_false c3
 clear c3
 obtain rfl := Option.some.inj H
 go_enter Try.func125, Try.ntmps125
 go_wp2
 go_ret
 exact ⟨by first | rfl | (simp; done) | (simp [*]; done), by repeat (first | exact Drawn0.refl _ | apply Drawn0.step)⟩
def spec_Merge.f (l0_0 : List (S88)) (a0_1 : Int) (a0_2 : Int) (a0_3 : ByteArray) (l1_0 : List (S88)) (a1_1 : Int) (a1_2 : Int) (a1_3 : ByteArray) : Option ((List (S88)) × Int × Int × ByteArray) := (spec_l4Copy.f l1_0 a1_1 a1_2 a1_3).bind fun bt735 => ((spec_Touch.f l0_0 a0_1 a0_2 a0_3 l1_0 a1_1 a1_2 a1_3).bind fun t742 => (if t742 = true then ((spec_Least.f a0_1 a1_1).bind fun t743 => (some (bt735.1, t743, bt735.2.2.1, bt735.2.2.2))) else (some (bt735.1, bt735.2.1, bt735.2.2.1, bt735.2.2.2))))
theorem spec_Merge.calls (A0_0 : Option Addr) (c0_0 : Nat) (l0_0 : List (S88)) (a0_1 : Int) (a0_2 : Int) (a0_3 : ByteArray) (A1_0 : Option Addr) (c1_0 : Nat) (l1_0 : List (S88)) (a1_1 : Int) (a1_2 : Int) (a1_3 : ByteArray) (r1 : List (S88)) (r2 : Int) (r3 : Int) (r4 : ByteArray) (w : World) (hr0_0 : Kd.C k88 w A0_0 l0_0.length l0_0) (hc0_0 : l0_0.length ≤ c0_0) (hr1_0 : Kd.C k88 w A1_0 l1_0.length l1_0) (hc1_0 : l1_0.length ≤ c1_0) (h : spec_Merge.f l0_0 a0_1 a0_2 a0_3 l1_0 a1_1 a1_2 a1_3 = some (r1, r2, r3, r4)) :
  Calls Try.prog 109 #[.agg #[.slice A0_0 l0_0.length c0_0, .int .i64 a0_1, .int .i64 a0_2, .string a0_3], .agg #[.slice A1_0 l1_0.length c1_0, .int .i64 a1_1, .int .i64 a1_2, .string a1_3]] w fun e w' => ∃ v0_ : Value, e = .returned (.agg #[v0_, .int .i64 r2, .int .i64 r3, .string r4]) ∧ Kd.R k88 88 w' w.heap.size (fun _ => True) v0_ r1 ∧ Below w.heap.size w w' := by
 have hu43 := Try.underlying43
 have HR0_0 := Aside0.mk hr0_0
 have HC0_0 := Aside0.mk hc0_0
 clear hr0_0 hc0_0
 have HR1_0 := Aside0.mk hr1_0
 have HC1_0 := Aside0.mk hc1_0
 clear hr1_0 hc1_0
 have HB := Aside0.mk (Below.refl w.heap.size w)
 have H : ((spec_l4Copy.f l1_0 a1_1 a1_2 a1_3).bind fun bt735 => ((spec_Touch.f l0_0 a0_1 a0_2 a0_3 l1_0 a1_1 a1_2 a1_3).bind fun t742 => (if t742 = true then ((spec_Least.f a0_1 a1_1).bind fun t743 => (some (bt735.1, t743, bt735.2.2.1, bt735.2.2.2))) else (some (bt735.1, bt735.2.1, bt735.2.2.1, bt735.2.2.2))))) = some (r1, r2, r3, r4) := h
 clear h
 replace H := Option.bind_eq_some_iff.mp H
 obtain ⟨⟨t735, t738, t739, t740⟩, A30, H⟩ := H
 have A3 := Aside0.mk A30
 clear A30
 replace H := Option.bind_eq_some_iff.mp H
 obtain ⟨t742, A40, H⟩ := H
 have A4 := Aside0.mk A40
 clear A40
 by_cases c5 : t742 = true
 ·
  subst c5
  rw [if_pos rfl] at H
  replace H := Option.bind_eq_some_iff.mp H
  obtain ⟨t743, A60, H⟩ := H
  have A6 := Aside0.mk A60
  clear A60
  simp only [Option.some.injEq, Prod.mk.injEq] at H
  obtain ⟨rfl, rfl, rfl, rfl⟩ := H
  go_enter Try.func109, Try.ntmps109
  go_wp2_with (first | ((with_reducible refine gd_ 2 rfl ?_); refine bv_ 2 #[.slice A0_0 l0_0.length c0_0, .int .i64 a0_1, .int .i64 a0_2, .string a0_3] 43 ?_; intro gb732 hg w7 hbox hb; have BK732 := Aside0.mk (hbox); have GW732 := Aside0.mk ((gw_ hg (hs_ HB.out))); replace HB := st_ HB hb; have GE732 := Ge_.mk GW732.out; clear hb hbox hg) | ((with_reducible refine gd_ 3 rfl ?_); refine bv_ 3 #[.slice A1_0 l1_0.length c1_0, .int .i64 a1_1, .int .i64 a1_2, .string a1_3] 43 ?_; intro gb733 hg w8 hbox hb; have BK733 := Aside0.mk (hbox); have GW733 := Aside0.mk ((gw_ hg (hs_ HB.out))); replace HB := st_ HB hb; have GE733 := Ge_.mk GW733.out; have NB732_733 := Ne_.mk (nl_ BK732.out hg); replace BK732 := bk2_ BK732 hb; have NB733_732 := Ne_.mk (NB732_733.out.symm); clear hb hbox hg) | ((with_reducible refine gd_ 4 rfl ?_); refine bv_ 4 #[.slice none 0 0, .int .i64 0, .int .i64 0, .string (⟨#[]⟩ : ByteArray)] 43 ?_; intro gb734 hg w9 hbox hb; have BK734 := Aside0.mk (hbox); have GW734 := Aside0.mk ((gw_ hg (hs_ HB.out))); replace HB := st_ HB hb; have GE734 := Ge_.mk GW734.out; have NB732_734 := Ne_.mk (nl_ BK732.out hg); replace BK732 := bk2_ BK732 hb; have NB734_732 := Ne_.mk (NB732_734.out.symm); have NB733_734 := Ne_.mk (nl_ BK733.out hg); replace BK733 := bk2_ BK733 hb; have NB734_733 := Ne_.mk (NB733_734.out.symm); clear hb hbox hg; have hnb10 := NB733_732.out; have hnc10 := NB732_733.out; have hnb11 := NB733_734.out; have hnc11 := NB734_733.out; obtain ⟨z12_0, z12_1, z12_2, z12_3, y12_0, y12_1, y12_2, y12_3⟩ := bc4_ BK733.out) | ((with_reducible refine gate_callee (f := 77) rfl ?_); refine gl_ (some 7) Try.func77 #[.agg #[.slice A1_0 l1_0.length c1_0, .int .i64 a1_1, .int .i64 a1_2, .string a1_3]] ?_; (with_reducible refine (spec_l4Copy.calls _ _ l1_0 a1_1 a1_2 a1_3 t735 t738 t739 t740 _ ?side1 ?side2 A3.out).mono ?_); (case side1 => exact cp_ ((Kd.C_below HR1_0.out HB.out))); (case side2 => exact HC1_0.out); rintro e w13 ⟨v736, rfl, ho0, hb⟩; refine ⟨_, rfl, ?_⟩; have HO737 := Aside0.mk (Kd.R_lower ho0 (below_size (hs_ HB.out))); replace BK732 := bk2_ BK732 hb; replace BK733 := bk2_ BK733 hb; replace BK734 := bk2_ BK734 hb; replace HB := st_ HB hb; (try clear hb); (try clear hk); (try clear ho0)) | ((with_reducible refine gd_ 5 rfl ?_); refine bv_ 5 #[.slice none 0 0, .int .i64 0, .int .i64 0, .string (⟨#[]⟩ : ByteArray)] 43 ?_; intro gb741 hg w14 hbox hb; replace HO737 := Aside0.mk (Kd.R_below (rp_ HO737.out) hb); have BK741 := Aside0.mk (hbox); have GW741 := Aside0.mk ((gw_ hg (hs_ HB.out))); replace HB := st_ HB hb; have GE741 := Ge_.mk GW741.out; have NB732_741 := Ne_.mk (nl_ BK732.out hg); replace BK732 := bk2_ BK732 hb; have NB741_732 := Ne_.mk (NB732_741.out.symm); have NB733_741 := Ne_.mk (nl_ BK733.out hg); replace BK733 := bk2_ BK733 hb; have NB741_733 := Ne_.mk (NB733_741.out.symm); have NB734_741 := Ne_.mk (nl_ BK734.out hg); replace BK734 := bk2_ BK734 hb; have NB741_734 := Ne_.mk (NB734_741.out.symm); clear hb hbox hg; obtain ⟨Ao15, co15, eo15⟩ := Kd.R_slice HO737.out; subst eo15; have hnb16 := NB741_732.out; have hnc16 := NB732_741.out; have hnb17 := NB741_733.out; have hnc17 := NB733_741.out; have hnb18 := NB741_734.out; have hnc18 := NB734_741.out; obtain ⟨z19_0, z19_1, z19_2, z19_3, y19_0, y19_1, y19_2, y19_3⟩ := bc4_ BK741.out; have hnb20 := NB732_734.out; have hnc20 := NB734_732.out; obtain ⟨z21_0, z21_1, z21_2, z21_3, y21_0, y21_1, y21_2, y21_3⟩ := bc4_ BK732.out; obtain ⟨z22_0, z22_1, z22_2, z22_3, y22_0, y22_1, y22_2, y22_3⟩ := bc4_ BK733.out) | ((with_reducible refine gate_callee (f := 124) rfl ?_); refine gl_ (some 10) Try.func124 #[.agg #[.slice A0_0 l0_0.length c0_0, .int .i64 a0_1, .int .i64 a0_2, .string a0_3], .agg #[.slice A1_0 l1_0.length c1_0, .int .i64 a1_1, .int .i64 a1_2, .string a1_3]] ?_; (with_reducible refine (spec_Touch.calls _ _ l0_0 a0_1 a0_2 a0_3 _ _ l1_0 a1_1 a1_2 a1_3 true _ ?side1 ?side2 ?side3 ?side4 A4.out).mono ?_); (case side1 => exact Kd.C_below HR0_0.out (hs_ HB.out)); (case side2 => exact HC0_0.out); (case side3 => exact Kd.C_below HR1_0.out (hs_ HB.out)); (case side4 => exact HC1_0.out); rintro e w23 ⟨rfl, hb⟩; refine ⟨_, rfl, ?_⟩; replace HO737 := Aside0.mk (Kd.R_below (by (with_reducible repeat (first | apply Kd.R_alloc | apply Kd.R_drewN | apply Kd.R_drew)); exact (Kd.R_mono (rf_ gb741 (Kd.R_types HO737.out BK741.out (by decide)) (fun _ hk => hk.2)) (fun _ h_ => h_.1))) hb); replace BK732 := bk2_ BK732 hb; replace BK733 := bk2_ BK733 hb; replace BK734 := bk2_ BK734 hb; replace BK741 := Aside0.mk (blk_below (g := gb741) (o := .cells #[.slice Ao15 t735.length co15, .int .i64 t738, .int .i64 t739, .string t740] 43 (0, 0)) (bp_ BK741.out) hb); replace HB := st_ HB hb; (try clear hb); (try clear hk); obtain ⟨z24_0, z24_1, z24_2, z24_3, y24_0, y24_1, y24_2, y24_3⟩ := bc4_ BK732.out; obtain ⟨z25_0, z25_1, z25_2, z25_3, y25_0, y25_1, y25_2, y25_3⟩ := bc4_ BK733.out) | ((with_reducible refine gate_callee (f := 125) rfl ?_); refine gl_ (some 15) Try.func125 #[.int .i64 a0_1, .int .i64 a1_1] ?_; (with_reducible refine (spec_Least.calls a0_1 a1_1 t743 _ A6.out).mono ?_); rintro e w' ⟨rfl, ⟨nd, rfl⟩⟩; refine ⟨_, rfl, ?_⟩; (try (rw [drewN_self w23]; generalize hq_ : World.drewN w23 _ = w23; replace HO737 : Aside0 (Kd.R k88 88 w23 w.heap.size (fun _ => True) (.slice Ao15 t735.length co15) t735) := ⟨by rw [← hq_]; exact (rp_ HO737.out)⟩; replace BK732 : Aside0 (w23.heap[gb732]? = some (.cells #[.slice A0_0 l0_0.length c0_0, .int .i64 a0_1, .int .i64 a0_2, .string a0_3] 43 (0, 0))) := ⟨by rw [← hq_]; exact (pb_ BK732.out)⟩; replace BK733 : Aside0 (w23.heap[gb733]? = some (.cells #[.slice A1_0 l1_0.length c1_0, .int .i64 a1_1, .int .i64 a1_2, .string a1_3] 43 (0, 0))) := ⟨by rw [← hq_]; exact (pb_ BK733.out)⟩; replace BK734 : Aside0 (w23.heap[gb734]? = some (.cells #[.slice none 0 0, .int .i64 0, .int .i64 0, .string (⟨#[]⟩ : ByteArray)] 43 (0, 0))) := ⟨by rw [← hq_]; exact (pb_ BK734.out)⟩; replace BK741 : Aside0 (w23.heap[gb741]? = some (.cells #[.slice Ao15 t735.length co15, .int .i64 t738, .int .i64 t739, .string t740] 43 (0, 0))) := ⟨by rw [← hq_]; exact (pb_ BK741.out)⟩; replace HB : Aside0 (Below w.heap.size w w23) := ⟨by rw [← hq_]; exact (hs_ HB.out)⟩; clear hq_)); obtain ⟨z26_0, z26_1, z26_2, z26_3, y26_0, y26_1, y26_2, y26_3⟩ := bc4_ BK741.out; obtain ⟨z27_0, z27_1, z27_2, z27_3, y27_0, y27_1, y27_2, y27_3⟩ := bc4_ BK734.out))
  refine bodyPost_ret (results_cell_row rfl _ _ gb734 43 #[.slice Ao15 t735.length co15, .int .i64 t743, .int .i64 t739, .string t740] (0, 0) _ rfl (bp_ BK734.out) Try.underlying43 rfl (by kernel_rfl)) rfl ?_
  exact ⟨_, by first | rfl | (simp [errW_none, errW_some] <;> rfl) | (simp [*, errW_none, errW_some] <;> rfl), by (with_reducible repeat (first | apply Kd.R_alloc | apply Kd.R_drewN | apply Kd.R_drew)); exact Kd.R_mono (rf_ gb734 (Kd.R_far (p := ⟨gb741, 1, none⟩) (Kd.R_types (Kd.R_types HO737.out BK741.out (by decide)) BK734.out (by decide)) (fun _ hk => hk.1.2) (.int .i64 t743)) (fun _ hk => hk.2)) (fun _ hk => trivial), by exact hs_ HB.out⟩
 replace c5 := Bool.eq_false_iff.mpr c5
 subst c5
 rw [if_neg (show ¬ (false = true) by decide)] at H
 simp only [Option.some.injEq, Prod.mk.injEq] at H
 obtain ⟨rfl, rfl, rfl, rfl⟩ := H
 go_enter Try.func109, Try.ntmps109
 go_wp2_with (first | ((with_reducible refine gd_ 2 rfl ?_); refine bv_ 2 #[.slice A0_0 l0_0.length c0_0, .int .i64 a0_1, .int .i64 a0_2, .string a0_3] 43 ?_; intro gb732 hg w28 hbox hb; have BK732 := Aside0.mk (hbox); have GW732 := Aside0.mk ((gw_ hg (hs_ HB.out))); replace HB := st_ HB hb; have GE732 := Ge_.mk GW732.out; clear hb hbox hg) | ((with_reducible refine gd_ 3 rfl ?_); refine bv_ 3 #[.slice A1_0 l1_0.length c1_0, .int .i64 a1_1, .int .i64 a1_2, .string a1_3] 43 ?_; intro gb733 hg w29 hbox hb; have BK733 := Aside0.mk (hbox); have GW733 := Aside0.mk ((gw_ hg (hs_ HB.out))); replace HB := st_ HB hb; have GE733 := Ge_.mk GW733.out; have NB732_733 := Ne_.mk (nl_ BK732.out hg); replace BK732 := bk2_ BK732 hb; have NB733_732 := Ne_.mk (NB732_733.out.symm); clear hb hbox hg) | ((with_reducible refine gd_ 4 rfl ?_); refine bv_ 4 #[.slice none 0 0, .int .i64 0, .int .i64 0, .string (⟨#[]⟩ : ByteArray)] 43 ?_; intro gb734 hg w30 hbox hb; have BK734 := Aside0.mk (hbox); have GW734 := Aside0.mk ((gw_ hg (hs_ HB.out))); replace HB := st_ HB hb; have GE734 := Ge_.mk GW734.out; have NB732_734 := Ne_.mk (nl_ BK732.out hg); replace BK732 := bk2_ BK732 hb; have NB734_732 := Ne_.mk (NB732_734.out.symm); have NB733_734 := Ne_.mk (nl_ BK733.out hg); replace BK733 := bk2_ BK733 hb; have NB734_733 := Ne_.mk (NB733_734.out.symm); clear hb hbox hg; have hnb31 := NB733_732.out; have hnc31 := NB732_733.out; have hnb32 := NB733_734.out; have hnc32 := NB734_733.out; obtain ⟨z33_0, z33_1, z33_2, z33_3, y33_0, y33_1, y33_2, y33_3⟩ := bc4_ BK733.out) | ((with_reducible refine gate_callee (f := 77) rfl ?_); refine gl_ (some 7) Try.func77 #[.agg #[.slice A1_0 l1_0.length c1_0, .int .i64 a1_1, .int .i64 a1_2, .string a1_3]] ?_; (with_reducible refine (spec_l4Copy.calls _ _ l1_0 a1_1 a1_2 a1_3 t735 t738 t739 t740 _ ?side1 ?side2 A3.out).mono ?_); (case side1 => exact cp_ ((Kd.C_below HR1_0.out HB.out))); (case side2 => exact HC1_0.out); rintro e w34 ⟨v736, rfl, ho0, hb⟩; refine ⟨_, rfl, ?_⟩; have HO737 := Aside0.mk (Kd.R_lower ho0 (below_size (hs_ HB.out))); replace BK732 := bk2_ BK732 hb; replace BK733 := bk2_ BK733 hb; replace BK734 := bk2_ BK734 hb; replace HB := st_ HB hb; (try clear hb); (try clear hk); (try clear ho0)) | ((with_reducible refine gd_ 5 rfl ?_); refine bv_ 5 #[.slice none 0 0, .int .i64 0, .int .i64 0, .string (⟨#[]⟩ : ByteArray)] 43 ?_; intro gb741 hg w35 hbox hb; replace HO737 := Aside0.mk (Kd.R_below (rp_ HO737.out) hb); have BK741 := Aside0.mk (hbox); have GW741 := Aside0.mk ((gw_ hg (hs_ HB.out))); replace HB := st_ HB hb; have GE741 := Ge_.mk GW741.out; have NB732_741 := Ne_.mk (nl_ BK732.out hg); replace BK732 := bk2_ BK732 hb; have NB741_732 := Ne_.mk (NB732_741.out.symm); have NB733_741 := Ne_.mk (nl_ BK733.out hg); replace BK733 := bk2_ BK733 hb; have NB741_733 := Ne_.mk (NB733_741.out.symm); have NB734_741 := Ne_.mk (nl_ BK734.out hg); replace BK734 := bk2_ BK734 hb; have NB741_734 := Ne_.mk (NB734_741.out.symm); clear hb hbox hg; obtain ⟨Ao36, co36, eo36⟩ := Kd.R_slice HO737.out; subst eo36; have hnb37 := NB741_732.out; have hnc37 := NB732_741.out; have hnb38 := NB741_733.out; have hnc38 := NB733_741.out; have hnb39 := NB741_734.out; have hnc39 := NB734_741.out; obtain ⟨z40_0, z40_1, z40_2, z40_3, y40_0, y40_1, y40_2, y40_3⟩ := bc4_ BK741.out; have hnb41 := NB732_734.out; have hnc41 := NB734_732.out; obtain ⟨z42_0, z42_1, z42_2, z42_3, y42_0, y42_1, y42_2, y42_3⟩ := bc4_ BK732.out; obtain ⟨z43_0, z43_1, z43_2, z43_3, y43_0, y43_1, y43_2, y43_3⟩ := bc4_ BK733.out) | ((with_reducible refine gate_callee (f := 124) rfl ?_); refine gl_ (some 10) Try.func124 #[.agg #[.slice A0_0 l0_0.length c0_0, .int .i64 a0_1, .int .i64 a0_2, .string a0_3], .agg #[.slice A1_0 l1_0.length c1_0, .int .i64 a1_1, .int .i64 a1_2, .string a1_3]] ?_; (with_reducible refine (spec_Touch.calls _ _ l0_0 a0_1 a0_2 a0_3 _ _ l1_0 a1_1 a1_2 a1_3 false _ ?side1 ?side2 ?side3 ?side4 A4.out).mono ?_); (case side1 => exact Kd.C_below HR0_0.out (hs_ HB.out)); (case side2 => exact HC0_0.out); (case side3 => exact Kd.C_below HR1_0.out (hs_ HB.out)); (case side4 => exact HC1_0.out); rintro e w44 ⟨rfl, hb⟩; refine ⟨_, rfl, ?_⟩; replace HO737 := Aside0.mk (Kd.R_below (by (with_reducible repeat (first | apply Kd.R_alloc | apply Kd.R_drewN | apply Kd.R_drew)); exact (Kd.R_mono (rf_ gb741 (Kd.R_types HO737.out BK741.out (by decide)) (fun _ hk => hk.2)) (fun _ h_ => h_.1))) hb); replace BK732 := bk2_ BK732 hb; replace BK733 := bk2_ BK733 hb; replace BK734 := bk2_ BK734 hb; replace BK741 := Aside0.mk (blk_below (g := gb741) (o := .cells #[.slice Ao36 t735.length co36, .int .i64 t738, .int .i64 t739, .string t740] 43 (0, 0)) (bp_ BK741.out) hb); replace HB := st_ HB hb; (try clear hb); (try clear hk); obtain ⟨z45_0, z45_1, z45_2, z45_3, y45_0, y45_1, y45_2, y45_3⟩ := bc4_ BK741.out; obtain ⟨z46_0, z46_1, z46_2, z46_3, y46_0, y46_1, y46_2, y46_3⟩ := bc4_ BK734.out))
 refine bodyPost_ret (results_cell_row rfl _ _ gb734 43 #[.slice Ao36 t735.length co36, .int .i64 t738, .int .i64 t739, .string t740] (0, 0) _ rfl (bp_ BK734.out) Try.underlying43 rfl (by kernel_rfl)) rfl ?_
 exact ⟨_, by first | rfl | (simp [errW_none, errW_some] <;> rfl) | (simp [*, errW_none, errW_some] <;> rfl), by (with_reducible repeat (first | apply Kd.R_alloc | apply Kd.R_drewN | apply Kd.R_drew)); exact Kd.R_mono (rf_ gb734 (Kd.R_types HO737.out BK734.out (by decide)) (fun _ hk => hk.2)) (fun _ hk => trivial), by exact hs_ HB.out⟩
def spec_PutChain.f (k : Nat) (a0_0 : Int) (l0_1 : List (S43)) (l1_0 : List (S88)) (a1_1 : Int) (a1_2 : Int) (a1_3 : ByteArray) : Option (Int × (List (S43)) × Bool) := (spec_l6Copy.f k a0_0 l0_1).bind fun bt747 => ((spec_InChain.f k a0_0 l0_1 l1_0).bind fun t752 => (if t752 < 0 then ((spec_l4Copy.f l1_0 a1_1 a1_2 a1_3).bind fun bt753 => (if bt747.2.length < 2513169434916 then (some (bt747.1, (bt747.2 ++ [(⟨bt753.1, bt753.2.1, bt753.2.2.1, bt753.2.2.2⟩ : S43)]), true)) else (none))) else (if 0 ≤ t752 then (if t752 < (l0_1.length : Int) then ((spec_Merge.f ((rd_T43 l0_1 t752).f0) ((rd_T43 l0_1 t752).f1) ((rd_T43 l0_1 t752).f2) ((rd_T43 l0_1 t752).f3) l1_0 a1_1 a1_2 a1_3).bind fun bt764 => (if t752 < (bt747.2.length : Int) then (some (bt747.1, (bt747.2.set (t752 : Int).toNat (⟨bt764.1, bt764.2.1, bt764.2.2.1, bt764.2.2.2⟩ : S43)), false)) else (none))) else (none)) else (none))))
theorem spec_PutChain.mono : ∀ a0 a1 a2 a3 a4 a5 k, LeO (spec_PutChain.f k a0 a1 a2 a3 a4 a5) (spec_PutChain.f (k + 1) a0 a1 a2 a3 a4 a5) := by
 intro a0 a1 a2 a3 a4 a5 k
 unfold spec_PutChain.f
 repeat' first | (with_reducible first | exact spec_InChain.mono _ _ _ _ | exact spec_l6Copy.mono _ _ _ | exact LeO.refl _ | exact LeO.none _ | refine LeO.ite ?_ ?_ | refine LeO.bind ?_ (fun _ => ?_)) | exact spec_InChain.mono _ _ _ _ | exact spec_l6Copy.mono _ _ _
def spec_PutChain.T7 : Bool × List (List Nat × List Nat) := (true, [([], []), ([0], [0]), ([], []), ([1, 2], [1, 2]), ([3], [3]), ([], []), ([4, 5], [4, 5]), ([], []), ([7, 6, 6, 0, 1, 2, 3, 4, 5, 6, 7], [6, 7])])
def spec_PutChain.B7 : List Nat := [0, 1, 0, 7, 15, 0, 63, 0, 255]
theorem spec_PutChain.tab7 : rtab .any (opsOf Try.f85 7) = spec_PutChain.T7 := by kernel_rfl
theorem spec_PutChain.bits7 : waitsOk spec_PutChain.T7.2 spec_PutChain.B7 = true := by kernel_rfl
theorem spec_PutChain.calls (k : Nat) (a0_0 : Int) (A0_1 : Option Addr) (c0_1 : Nat) (l0_1 : List (S43)) (A1_0 : Option Addr) (c1_0 : Nat) (l1_0 : List (S88)) (a1_1 : Int) (a1_2 : Int) (a1_3 : ByteArray) (r1 : Int) (r2 : List (S43)) (r3 : Bool) (w : World) (hr0_1 : Kd.C k43 w A0_1 l0_1.length l0_1) (hc0_1 : l0_1.length ≤ c0_1) (hr1_0 : Kd.C k88 w A1_0 l1_0.length l1_0) (hc1_0 : l1_0.length ≤ c1_0) (h : spec_PutChain.f k a0_0 l0_1 l1_0 a1_1 a1_2 a1_3 = some (r1, r2, r3)) :
  Calls Try.prog 85 #[.agg #[.int .i64 a0_0, .slice A0_1 l0_1.length c0_1], .agg #[.slice A1_0 l1_0.length c1_0, .int .i64 a1_1, .int .i64 a1_2, .string a1_3]] w fun e w' => ∃ v1_ : Value, e = .returned (.tuple #[.agg #[.int .i64 r1, v1_], .bool r3]) ∧ Kd.S k43 43 w' w.heap.size (fun _ => True) v1_ r2 ∧ Below w.heap.size w w' := by
 have hu100 := Try.underlying100
 have hu43 := Try.underlying43
 have HR0_1 := Aside0.mk hr0_1
 have HC0_1 := Aside0.mk hc0_1
 clear hr0_1 hc0_1
 have HR1_0 := Aside0.mk hr1_0
 have HC1_0 := Aside0.mk hc1_0
 clear hr1_0 hc1_0
 have HB := Aside0.mk (Below.refl w.heap.size w)
 have H : ((spec_l6Copy.f k a0_0 l0_1).bind fun bt747 => ((spec_InChain.f k a0_0 l0_1 l1_0).bind fun t752 => (if t752 < 0 then ((spec_l4Copy.f l1_0 a1_1 a1_2 a1_3).bind fun bt753 => (if bt747.2.length < 2513169434916 then (some (bt747.1, (bt747.2 ++ [(⟨bt753.1, bt753.2.1, bt753.2.2.1, bt753.2.2.2⟩ : S43)]), true)) else (none))) else (if 0 ≤ t752 then (if t752 < (l0_1.length : Int) then ((spec_Merge.f ((rd_T43 l0_1 t752).f0) ((rd_T43 l0_1 t752).f1) ((rd_T43 l0_1 t752).f2) ((rd_T43 l0_1 t752).f3) l1_0 a1_1 a1_2 a1_3).bind fun bt764 => (if t752 < (bt747.2.length : Int) then (some (bt747.1, (bt747.2.set (t752 : Int).toNat (⟨bt764.1, bt764.2.1, bt764.2.2.1, bt764.2.2.2⟩ : S43)), false)) else (none))) else (none)) else (none))))) = some (r1, r2, r3) := h
 clear h
 replace H := Option.bind_eq_some_iff.mp H
 obtain ⟨⟨t747, t748⟩, A30, H⟩ := H
 have A3 := Aside0.mk A30
 clear A30
 replace H := Option.bind_eq_some_iff.mp H
 obtain ⟨t752, A40, H⟩ := H
 have A4 := Aside0.mk A40
 clear A40
 by_cases c5 : t752 < 0
 ·
  rw [if_pos c5] at H
  have c5b0 := decide_eq_true c5
  clear c5
  replace H := Option.bind_eq_some_iff.mp H
  obtain ⟨⟨t753, t756, t757, t758⟩, A60, H⟩ := H
  have A6 := Aside0.mk A60
  clear A60
  by_cases c7 : t748.length < 2513169434916
  ·
   rw [if_pos c7] at H
   have LMc7 := Aside0.mk c7
   clear c7
   obtain ⟨y760, hy760⟩ : ∃ y_ : List (S43), y_ = (t748 ++ [(⟨t753, t756, t757, t758⟩ : S43)]) := ⟨_, rfl⟩
   replace H : (some (t747, y760, true)) = some (r1, r2, r3) := by first | (rw [hy760]; with_reducible exact H) | (have H2_ := (Option.bind_some _ _).symm.trans H; rw [hy760]; with_reducible exact H2_) | (have H2_ := (Option.bind_some _ _).symm.trans H; with_reducible exact H2_) | with_reducible exact H | (rw [hy760]; exact H) | exact H
   have Ny760 := Aside0.mk hy760
   clear hy760
   simp only [Option.some.injEq, Prod.mk.injEq] at H
   obtain ⟨rfl, rfl, rfl⟩ := H
   go_enter Try.func85, Try.ntmps85
   go_wp2_with (first | ((with_reducible refine gd_ 2 rfl ?_); refine bv_ 2 #[.int .i64 a0_0, .slice A0_1 l0_1.length c0_1] 100 ?_; intro gb744 hg w8 hbox hb; have BK744 := Aside0.mk (hbox); have GW744 := Aside0.mk ((gw_ hg (hs_ HB.out))); replace HB := st_ HB hb; have GE744 := Ge_.mk GW744.out; clear hb hbox hg) | ((with_reducible refine gd_ 3 rfl ?_); refine bv_ 3 #[.slice A1_0 l1_0.length c1_0, .int .i64 a1_1, .int .i64 a1_2, .string a1_3] 43 ?_; intro gb745 hg w9 hbox hb; have BK745 := Aside0.mk (hbox); have GW745 := Aside0.mk ((gw_ hg (hs_ HB.out))); replace HB := st_ HB hb; have GE745 := Ge_.mk GW745.out; have NB744_745 := Ne_.mk (nl_ BK744.out hg); replace BK744 := bk2_ BK744 hb; have NB745_744 := Ne_.mk (NB744_745.out.symm); clear hb hbox hg) | ((with_reducible refine gd_ 4 rfl ?_); refine bv_ 4 #[.int .i64 0, .slice none 0 0] 100 ?_; intro gb746 hg w10 hbox hb; have BK746 := Aside0.mk (hbox); have GW746 := Aside0.mk ((gw_ hg (hs_ HB.out))); replace HB := st_ HB hb; have GE746 := Ge_.mk GW746.out; have NB744_746 := Ne_.mk (nl_ BK744.out hg); replace BK744 := bk2_ BK744 hb; have NB746_744 := Ne_.mk (NB744_746.out.symm); have NB745_746 := Ne_.mk (nl_ BK745.out hg); replace BK745 := bk2_ BK745 hb; have NB746_745 := Ne_.mk (NB745_746.out.symm); clear hb hbox hg; have hnb11 := NB744_745.out; have hnc11 := NB745_744.out; have hnb12 := NB744_746.out; have hnc12 := NB746_744.out; obtain ⟨z13_0, z13_1, y13_0, y13_1⟩ := bc2_ BK744.out) | ((with_reducible refine gate_callee (f := 108) rfl ?_); refine gl_ (some 11) Try.func108 #[.agg #[.int .i64 a0_0, .slice A0_1 l0_1.length c0_1]] ?_; (with_reducible refine (spec_l6Copy.calls k a0_0 _ _ l0_1 t747 t748 _ ?side1 ?side2 A3.out).mono ?_); (case side1 => exact cp_ ((Kd.C_below HR0_1.out HB.out))); (case side2 => exact HC0_1.out); rintro e w14 ⟨v749, rfl, ho0, hb⟩; refine ⟨_, rfl, ?_⟩; have HO750 := Aside0.mk (Kd.S_lower (Kd.S_newB ho0 (g := gb745) (o := .cells #[.slice A1_0 l1_0.length c1_0, .int .i64 a1_1, .int .i64 a1_2, .string a1_3] 43 (0, 0)) (pb_ BK745.out)) (below_size (hs_ HB.out))); replace BK744 := bk2_ BK744 hb; replace BK745 := bk2_ BK745 hb; replace BK746 := bk2_ BK746 hb; replace HB := st_ HB hb; (try clear hb); (try clear hk); (try clear ho0)) | ((with_reducible refine gd_ 6 rfl ?_); refine bv_ 6 #[.int .i64 0, .slice none 0 0] 100 ?_; intro gb751 hg w15 hbox hb; replace HO750 := Aside0.mk (Kd.S_below (sp_ HO750.out) hb); have BK751 := Aside0.mk (hbox); have GW751 := Aside0.mk ((gw_ hg (hs_ HB.out))); replace HB := st_ HB hb; have GE751 := Ge_.mk GW751.out; have NB744_751 := Ne_.mk (nl_ BK744.out hg); replace BK744 := bk2_ BK744 hb; have NB751_744 := Ne_.mk (NB744_751.out.symm); have NB745_751 := Ne_.mk (nl_ BK745.out hg); replace BK745 := bk2_ BK745 hb; have NB751_745 := Ne_.mk (NB745_751.out.symm); have NB746_751 := Ne_.mk (nl_ BK746.out hg); replace BK746 := bk2_ BK746 hb; have NB751_746 := Ne_.mk (NB746_751.out.symm); clear hb hbox hg; have hnb16 := NB751_744.out; have hnc16 := NB744_751.out; have hnb17 := NB751_745.out; have hnc17 := NB745_751.out; have hnb18 := NB751_746.out; have hnc18 := NB746_751.out; obtain ⟨z19_0, z19_1, y19_0, y19_1⟩ := bc2_ BK751.out; obtain ⟨Ao20, co20, eo20⟩ := Kd.S_slice HO750.out; subst eo20; obtain ⟨z21_0, z21_1, y21_0, y21_1⟩ := bc2_ BK744.out; have hnb22 := NB745_746.out; have hnc22 := NB746_745.out; obtain ⟨z23_0, z23_1, z23_2, z23_3, y23_0, y23_1, y23_2, y23_3⟩ := bc4_ BK745.out) | ((with_reducible refine gate_callee (f := 76) rfl ?_); refine gl_ (some 15) Try.func76 #[.agg #[.int .i64 a0_0, .slice A0_1 l0_1.length c0_1], .slice A1_0 l1_0.length c1_0] ?_; (with_reducible refine (spec_InChain.calls k a0_0 _ _ l0_1 _ _ l1_0 t752 _ ?side1 ?side2 ?side3 ?side4 A4.out).mono ?_); (case side1 => exact Kd.C_below HR0_1.out (hs_ HB.out)); (case side2 => exact HC0_1.out); (case side3 => exact Kd.C_below HR1_0.out (hs_ HB.out)); (case side4 => exact HC1_0.out); rintro e w24 ⟨rfl, hb⟩; refine ⟨_, rfl, ?_⟩; replace HO750 := Aside0.mk (Kd.S_below (by (with_reducible repeat (first | apply Kd.S_alloc | apply Kd.S_drewN | apply Kd.S_drew)); exact (Kd.S_mono (sf_ gb751 (Kd.S_types HO750.out BK751.out (by decide)) (fun _ hk => hk.2)) (fun _ h_ => h_.1))) hb); replace BK744 := bk2_ BK744 hb; replace BK745 := bk2_ BK745 hb; replace BK746 := bk2_ BK746 hb; replace BK751 := Aside0.mk (blk_below (g := gb751) (o := .cells #[.int .i64 t747, .slice Ao20 t748.length co20] 100 (0, 0)) (bp_ BK751.out) hb); replace HB := st_ HB hb; (try clear hb); (try clear hk); obtain ⟨z25_0, z25_1, z25_2, z25_3, y25_0, y25_1, y25_2, y25_3⟩ := bc4_ BK745.out) | ((with_reducible refine gate_callee (f := 77) rfl ?_); refine gl_ (some 19) Try.func77 #[.agg #[.slice A1_0 l1_0.length c1_0, .int .i64 a1_1, .int .i64 a1_2, .string a1_3]] ?_; (with_reducible refine (spec_l4Copy.calls _ _ l1_0 a1_1 a1_2 a1_3 t753 t756 t757 t758 _ ?side1 ?side2 A6.out).mono ?_); (case side1 => exact cp_ ((Kd.C_below HR1_0.out HB.out))); (case side2 => exact HC1_0.out); rintro e w26 ⟨v754, rfl, ho0, hb⟩; refine ⟨_, rfl, ?_⟩; replace HO750 := Aside0.mk (Kd.S_elder' (sp_ HO750.out) (Kd.R_base ho0) hb); have HO755 := Aside0.mk (Kd.R_lower ho0 (below_size (hs_ HB.out))); replace BK744 := bk2_ BK744 hb; replace BK745 := bk2_ BK745 hb; replace BK746 := bk2_ BK746 hb; replace BK751 := bk2_ BK751 hb; replace HB := st_ HB hb; (try clear hb); (try clear hk); (try clear ho0)) | ((with_reducible refine gd_ 8 rfl ?_); refine bv_ 8 #[.slice none 0 0, .int .i64 0, .int .i64 0, .string (⟨#[]⟩ : ByteArray)] 43 ?_; intro gb759 hg w27 hbox hb; replace HO750 := Aside0.mk (Kd.S_below (Kd.S_elderB (sp_ HO750.out) gb759 (Nat.le_of_eq hg.symm)) hb); replace HO755 := Aside0.mk (Kd.R_below (rp_ HO755.out) hb); have BK759 := Aside0.mk (hbox); have GW759 := Aside0.mk ((gw_ hg (hs_ HB.out))); replace HB := st_ HB hb; have GE759 := Ge_.mk GW759.out; have NB744_759 := Ne_.mk (nl_ BK744.out hg); replace BK744 := bk2_ BK744 hb; have NB759_744 := Ne_.mk (NB744_759.out.symm); have NB745_759 := Ne_.mk (nl_ BK745.out hg); replace BK745 := bk2_ BK745 hb; have NB759_745 := Ne_.mk (NB745_759.out.symm); have NB746_759 := Ne_.mk (nl_ BK746.out hg); replace BK746 := bk2_ BK746 hb; have NB759_746 := Ne_.mk (NB746_759.out.symm); have NB751_759 := Ne_.mk (nl_ BK751.out hg); replace BK751 := bk2_ BK751 hb; have NB759_751 := Ne_.mk (NB751_759.out.symm); clear hb hbox hg; obtain ⟨Ao28, co28, eo28⟩ := Kd.R_slice HO755.out; subst eo28; have hnb29 := NB759_744.out; have hnc29 := NB744_759.out; have hnb30 := NB759_745.out; have hnc30 := NB745_759.out; have hnb31 := NB759_746.out; have hnc31 := NB746_759.out; have hnb32 := NB759_751.out; have hnc32 := NB751_759.out; obtain ⟨z33_0, z33_1, z33_2, z33_3, y33_0, y33_1, y33_2, y33_3⟩ := bc4_ BK759.out) | ((with_reducible refine gate_store (t := 43) (p := 8) rfl ?_); refine store_event (t := 43) (p := 8) (v := ?vo_w34) (w1 := ((((w27.setCell ⟨gb759, 0, none⟩ (.slice Ao28 t753.length co28)).setCell ⟨gb759, 1, none⟩ (.int .i64 t756)).setCell ⟨gb759, 2, none⟩ (.int .i64 t757)).setCell ⟨gb759, 3, none⟩ (.string t758))) ?hg ?ho ?hn ?hr ?_; (case ho => rfl); (case hg => rfl); (case hn => rfl); (case hr => first | (go_simp; done) | (go_simp; rfl)); intro w34 hw; replace HO750 : Aside0 (Kd.S k43 43 w34 w.heap.size (fun k_ => some k_ ≠ (.slice Ao28 t753.length co28 : Value).ownBlock ∧ k_ ≠ gb745 ∧ k_ ≠ gb759) (.slice Ao20 t748.length co20) t748) := ⟨(by rw [hw]; exact (Kd.S_mono (sf_ gb759 (Kd.S_mono HO750.out (fun k_ hk => (⟨hk, hk.2⟩ : _ ∧ k_ ≠ gb759))) (fun _ hk => hk.2)) (fun _ hk => ⟨hk.1.1.2, ⟨hk.1.1.1.2, hk.1.2⟩⟩)))⟩; replace HO755 : Aside0 (Kd.R k88 88 w34 w.heap.size (fun _ => True) (.slice Ao28 t753.length co28) t753) := ⟨(by rw [hw]; exact (Kd.R_mono (rf_ gb759 (Kd.R_types HO755.out BK759.out (by decide)) (fun _ hk => hk.2)) (fun _ hk => trivial)))⟩; replace BK744 : Aside0 (w34.heap[gb744]? = some (.cells #[.int .i64 a0_0, .slice A0_1 l0_1.length c0_1] 100 (0, 0))) := ⟨(by rw [hw]; exact (bq_ BK744.out))⟩; replace BK745 : Aside0 (w34.heap[gb745]? = some (.cells #[.slice A1_0 l1_0.length c1_0, .int .i64 a1_1, .int .i64 a1_2, .string a1_3] 43 (0, 0))) := ⟨(by rw [hw]; exact (bq_ BK745.out))⟩; replace BK746 : Aside0 (w34.heap[gb746]? = some (.cells #[.int .i64 0, .slice none 0 0] 100 (0, 0))) := ⟨(by rw [hw]; exact (bq_ BK746.out))⟩; replace BK751 : Aside0 (w34.heap[gb751]? = some (.cells #[.int .i64 t747, .slice Ao20 t748.length co20] 100 (0, 0))) := ⟨(by rw [hw]; exact (bq_ BK751.out))⟩; replace BK759 : Aside0 (w34.heap[gb759]? = some (.cells #[.slice Ao28 t753.length co28, .int .i64 t756, .int .i64 t757, .string t758] 43 (0, 0))) := ⟨(by rw [hw]; exact (bp_ BK759.out))⟩; replace HB : Aside0 (Below w.heap.size w w34) := ⟨(by rw [hw]; exact (hs_ HB.out))⟩; clear hw; obtain ⟨z35_0, z35_1, y35_0, y35_1⟩ := bc2_ BK751.out; obtain ⟨z36_0, z36_1, z36_2, z36_3, y36_0, y36_1, y36_2, y36_3⟩ := bc4_ BK759.out) | ((with_reducible refine gate_builtin (b := .append) (xs := #[.tmp 21, .tmp 23]) rfl ?_); at_builtin; refine Kd.S_append k43 (w0 := w) w.heap.size rfl (.tmp 21) (.tmp 23) 44 43 (.agg #[(.slice none 0 0), (.int .i64 0), (.int .i64 0), (.string ⟨#[]⟩)]) 56 rfl Try.underlying44 info43 rfl (by decide) (by omega) (.slice Ao20 t748.length co20) t748 (⟨t753, t756, t757, t758⟩ : S43) [.slice Ao28 t753.length co28, .int .i64 t756, .int .i64 t757, .string t758] (fun k_ => k_ ≠ gb745 ∧ k_ ≠ gb759) (fun k_ => some k_ = (.slice Ao28 t753.length co28 : Value).ownBlock) rfl rfl ?aP (fun k_ hk_ => ((Kd.R_mono (ok' := fun k_ => ((fun k_ => k_ ≠ gb745 ∧ k_ ≠ gb759)) k_ ∧ some k_ ≠ (.slice Ao20 t748.length co20 : Value).ownBlock) (Kd.R_types (Kd.R_types (Kd.R_apart' (HO755.out) (Kd.S_typed HO750.out) (by decide)) BK745.out (by decide)) BK759.out (by decide)) (fun k_ hk => ⟨⟨hk.1.2, hk.2⟩, hk.1.1.2⟩))).1 k_ hk_.symm) ?aF ?aO ?aB ?aS ?aL ?_; (case aP => exact k43_mkM _ _ _ (⟨t753, t756, t757, t758⟩ : S43) (Kd.R_mono (Kd.R_tight rfl (Kd.R_mono (ok' := fun k_ => ((fun k_ => k_ ≠ gb745 ∧ k_ ≠ gb759)) k_ ∧ some k_ ≠ (.slice Ao20 t748.length co20 : Value).ownBlock) (Kd.R_types (Kd.R_types (Kd.R_apart' (HO755.out) (Kd.S_typed HO750.out) (by decide)) BK745.out (by decide)) BK759.out (by decide)) (fun k_ hk => ⟨⟨hk.1.2, hk.2⟩, hk.1.1.2⟩))) (fun _ h_ => h_))); (case aB => exact (hs_ HB.out)); (case aF => exact (fun k_ hk => ⟨Kd.freshB (g := gb745) (o := .cells #[.slice A1_0 l1_0.length c1_0, .int .i64 a1_1, .int .i64 a1_2, .string a1_3] 43 (0, 0)) (pb_ BK745.out) k_ hk, Kd.freshB (g := gb759) (o := .cells #[.slice Ao28 t753.length co28, .int .i64 t756, .int .i64 t757, .string t758] 43 (0, 0)) (pb_ BK759.out) k_ hk⟩)); (case aO => exact (Kd.S_mono (sp_ HO750.out) (fun k_ hk => ⟨⟨hk.2.1, hk.2.2⟩, fun e_ => hk.1 e_⟩))); (case aS => exact (below_size (hs_ HB.out))); (case aL => have := LMc7.out; omega); intro v761 w37 ho hb hg hat; rw [← Ny760.out] at ho; replace BK744 := Aside0.mk (blk_grown (bq_ BK744.out) hg (Kd.S_ne HO750.out BK744.out (by decide))); replace BK745 := Aside0.mk (blk_grown (bq_ BK745.out) hg (Kd.S_away HO750.out (fun _ hk => hk.2.1))); replace BK746 := Aside0.mk (blk_grown (bq_ BK746.out) hg (Kd.S_ne HO750.out BK746.out (by decide))); replace BK751 := Aside0.mk (blk_grown (bq_ BK751.out) hg (Kd.S_ne HO750.out BK751.out (by decide))); replace BK759 := Aside0.mk (blk_grown (bq_ BK759.out) hg (Kd.S_away HO750.out (fun _ hk => hk.2.2))); replace HB := Aside0.mk (hb); have HO762 := Aside0.mk (ho); clear HO750 HO755; clear ho hb hg hat; obtain ⟨Ao38, co38, eo38⟩ := Kd.S_slice HO762.out; subst eo38; obtain ⟨z39_0, z39_1, y39_0, y39_1⟩ := bc2_ BK751.out; obtain ⟨z40_0, z40_1, y40_0, y40_1⟩ := bc2_ BK746.out))
   refine bodyPost_ret (results_ct rfl _ _ gb746 100 #[.int .i64 t747, .slice Ao38 y760.length co38] (0, 0) _ rfl (bp_ BK746.out) Try.underlying100 rfl (by kernel_rfl)) rfl ?_
   exact ⟨_, by first | rfl | (simp [errW_none, errW_some] <;> rfl) | (simp [*, errW_none, errW_some] <;> rfl), by (with_reducible repeat (first | apply Kd.S_alloc | apply Kd.S_drewN | apply Kd.S_drew)); exact Kd.S_mono (sf_ gb746 (Kd.S_far (p := ⟨gb751, 1, none⟩) (Kd.S_types (Kd.S_types HO762.out BK751.out (by decide)) BK746.out (by decide)) (fun _ hk => hk.1.2) (.slice Ao38 y760.length co38)) (fun _ hk => hk.2)) (fun _ hk => trivial), by exact hs_ HB.out⟩
  rw [if_neg c7] at H
  exact absurd H (by simp)
 rw [if_neg c5] at H
 have c5b0 : decide (t752 < 0) = false := decide_eq_false c5
 clear c5
 by_cases c41 : 0 ≤ t752
 ·
  rw [if_pos c41] at H
  have c41b0 := decide_eq_true c41
  clear c41
  by_cases c42 : t752 < (l0_1.length : Int)
  ·
   rw [if_pos c42] at H
   have c42b0 := decide_eq_true c42
   clear c42
   replace H := Option.bind_eq_some_iff.mp H
   obtain ⟨⟨t764, t767, t768, t769⟩, A430, H⟩ := H
   have A43 := Aside0.mk A430
   clear A430
   by_cases c44 : t752 < (t748.length : Int)
   ·
    rw [if_pos c44] at H
    have c44b0 := decide_eq_true c44
    clear c44
    obtain ⟨y771, hy771⟩ : ∃ y_ : List (S43), y_ = (t748.set (t752 : Int).toNat (⟨t764, t767, t768, t769⟩ : S43)) := ⟨_, rfl⟩
    replace H : (some (t747, y771, false)) = some (r1, r2, r3) := by first | (rw [hy771]; with_reducible exact H) | (have H2_ := (Option.bind_some _ _).symm.trans H; rw [hy771]; with_reducible exact H2_) | (have H2_ := (Option.bind_some _ _).symm.trans H; with_reducible exact H2_) | with_reducible exact H | (rw [hy771]; exact H) | exact H
    have Ny771 := Aside0.mk hy771
    clear hy771
    simp only [Option.some.injEq, Prod.mk.injEq] at H
    obtain ⟨rfl, rfl, rfl⟩ := H
    go_enter Try.func85, Try.ntmps85
    try go_wp2_with (first | ((with_reducible refine gd_ 2 rfl ?_); refine bv_ 2 #[.int .i64 a0_0, .slice A0_1 l0_1.length c0_1] 100 ?_; intro gb744 hg w46 hbox hb; have BK744 := Aside0.mk (hbox); have GW744 := Aside0.mk ((gw_ hg (hs_ HB.out))); replace HB := st_ HB hb; have GE744 := Ge_.mk GW744.out; clear hb hbox hg) | ((with_reducible refine gd_ 3 rfl ?_); refine bv_ 3 #[.slice A1_0 l1_0.length c1_0, .int .i64 a1_1, .int .i64 a1_2, .string a1_3] 43 ?_; intro gb745 hg w47 hbox hb; have BK745 := Aside0.mk (hbox); have GW745 := Aside0.mk ((gw_ hg (hs_ HB.out))); replace HB := st_ HB hb; have GE745 := Ge_.mk GW745.out; have NB744_745 := Ne_.mk (nl_ BK744.out hg); replace BK744 := bk2_ BK744 hb; have NB745_744 := Ne_.mk (NB744_745.out.symm); clear hb hbox hg) | ((with_reducible refine gd_ 4 rfl ?_); refine bv_ 4 #[.int .i64 0, .slice none 0 0] 100 ?_; intro gb746 hg w48 hbox hb; have BK746 := Aside0.mk (hbox); have GW746 := Aside0.mk ((gw_ hg (hs_ HB.out))); replace HB := st_ HB hb; have GE746 := Ge_.mk GW746.out; have NB744_746 := Ne_.mk (nl_ BK744.out hg); replace BK744 := bk2_ BK744 hb; have NB746_744 := Ne_.mk (NB744_746.out.symm); have NB745_746 := Ne_.mk (nl_ BK745.out hg); replace BK745 := bk2_ BK745 hb; have NB746_745 := Ne_.mk (NB745_746.out.symm); clear hb hbox hg; have hnb49 := NB744_745.out; have hnc49 := NB745_744.out; have hnb50 := NB744_746.out; have hnc50 := NB746_744.out; obtain ⟨z51_0, z51_1, y51_0, y51_1⟩ := bc2_ BK744.out) | ((with_reducible refine gate_callee (f := 108) rfl ?_); refine gl_ (some 11) Try.func108 #[.agg #[.int .i64 a0_0, .slice A0_1 l0_1.length c0_1]] ?_; (with_reducible refine (spec_l6Copy.calls k a0_0 _ _ l0_1 t747 t748 _ ?side1 ?side2 A3.out).mono ?_); (case side1 => exact cp_ ((Kd.C_below HR0_1.out HB.out))); (case side2 => exact HC0_1.out); rintro e w52 ⟨v749, rfl, ho0, hb⟩; refine ⟨_, rfl, ?_⟩; have HO750 := Aside0.mk (Kd.S_lower (Kd.S_newB ho0 (g := gb745) (o := .cells #[.slice A1_0 l1_0.length c1_0, .int .i64 a1_1, .int .i64 a1_2, .string a1_3] 43 (0, 0)) (pb_ BK745.out)) (below_size (hs_ HB.out))); replace BK744 := bk2_ BK744 hb; replace BK745 := bk2_ BK745 hb; replace BK746 := bk2_ BK746 hb; replace HB := st_ HB hb; (try clear hb); (try clear hk); (try clear ho0)) | ((with_reducible refine gd_ 6 rfl ?_); refine bv_ 6 #[.int .i64 0, .slice none 0 0] 100 ?_; intro gb751 hg w53 hbox hb; replace HO750 := Aside0.mk (Kd.S_below (sp_ HO750.out) hb); have BK751 := Aside0.mk (hbox); have GW751 := Aside0.mk ((gw_ hg (hs_ HB.out))); replace HB := st_ HB hb; have GE751 := Ge_.mk GW751.out; have NB744_751 := Ne_.mk (nl_ BK744.out hg); replace BK744 := bk2_ BK744 hb; have NB751_744 := Ne_.mk (NB744_751.out.symm); have NB745_751 := Ne_.mk (nl_ BK745.out hg); replace BK745 := bk2_ BK745 hb; have NB751_745 := Ne_.mk (NB745_751.out.symm); have NB746_751 := Ne_.mk (nl_ BK746.out hg); replace BK746 := bk2_ BK746 hb; have NB751_746 := Ne_.mk (NB746_751.out.symm); clear hb hbox hg; have hnb54 := NB751_744.out; have hnc54 := NB744_751.out; have hnb55 := NB751_745.out; have hnc55 := NB745_751.out; have hnb56 := NB751_746.out; have hnc56 := NB746_751.out; obtain ⟨z57_0, z57_1, y57_0, y57_1⟩ := bc2_ BK751.out; obtain ⟨Ao58, co58, eo58⟩ := Kd.S_slice HO750.out; subst eo58; obtain ⟨z59_0, z59_1, y59_0, y59_1⟩ := bc2_ BK744.out; have hnb60 := NB745_746.out; have hnc60 := NB746_745.out; obtain ⟨z61_0, z61_1, z61_2, z61_3, y61_0, y61_1, y61_2, y61_3⟩ := bc4_ BK745.out) | ((with_reducible refine gate_callee (f := 76) rfl ?_); refine gl_ (some 15) Try.func76 #[.agg #[.int .i64 a0_0, .slice A0_1 l0_1.length c0_1], .slice A1_0 l1_0.length c1_0] ?_; (with_reducible refine (spec_InChain.calls k a0_0 _ _ l0_1 _ _ l1_0 t752 _ ?side1 ?side2 ?side3 ?side4 A4.out).mono ?_); (case side1 => exact Kd.C_below HR0_1.out (hs_ HB.out)); (case side2 => exact HC0_1.out); (case side3 => exact Kd.C_below HR1_0.out (hs_ HB.out)); (case side4 => exact HC1_0.out); rintro e w62 ⟨rfl, hb⟩; refine ⟨_, rfl, ?_⟩; replace HO750 := Aside0.mk (Kd.S_below (by (with_reducible repeat (first | apply Kd.S_alloc | apply Kd.S_drewN | apply Kd.S_drew)); exact (Kd.S_mono (sf_ gb751 (Kd.S_types HO750.out BK751.out (by decide)) (fun _ hk => hk.2)) (fun _ h_ => h_.1))) hb); replace BK744 := bk2_ BK744 hb; replace BK745 := bk2_ BK745 hb; replace BK746 := bk2_ BK746 hb; replace BK751 := Aside0.mk (blk_below (g := gb751) (o := .cells #[.int .i64 t747, .slice Ao58 t748.length co58] 100 (0, 0)) (bp_ BK751.out) hb); replace HB := st_ HB hb; (try clear hb); (try clear hk)))
    replace HO750 := Aside0.mk (Kd.S_drew HO750.out)
    replace BK744 := Aside0.mk (blk_drew BK744.out)
    replace BK745 := Aside0.mk (blk_drew BK745.out)
    replace BK746 := Aside0.mk (blk_drew BK746.out)
    replace BK751 := Aside0.mk (blk_drew BK751.out)
    replace HB := Aside0.mk (bd_ HB.out)
    have p763 : 0 ≤ (t752 : Int) := of_decide_eq_true (by with_reducible assumption)
    have q763 : t752 < (l0_1.length : Int) := of_decide_eq_true (by with_reducible assumption)
    obtain ⟨ad763, A763_0, c763_0, e763, hx763_0, hx763_1, hx763_2, hx763_3, hl763_0, hi763_0⟩ := at_T43 HR0_1.out t752 p763 q763
    have hw763_3 := hx763_3
    have hw763_2 := hx763_2
    have hw763_1 := hx763_1
    have hw763_0 := hx763_0
    cases e763
    replace hx763_0 := cl_ HB.out hx763_0
    replace hx763_1 := cl_ HB.out hx763_1
    replace hx763_2 := cl_ HB.out hx763_2
    replace hx763_3 := cl_ HB.out hx763_3
    have HR763_0 := Aside0.mk hi763_0
    have HC763_0 := Aside0.mk hl763_0
    clear hi763_0 hl763_0
    replace p763 := eq_true p763
    replace q763 := eq_true q763
    refine start_ (n := 9) (S := fun w' => w'.cell? ⟨gb744, 0, none⟩ = some (.int .i64 a0_0) ∧ w'.cell? ⟨gb744, 1, none⟩ = some (.slice (some ad763) l0_1.length c0_1) ∧ w'.cell? ⟨gb745, 0, none⟩ = some (.slice A1_0 l1_0.length c1_0) ∧ w'.cell? ⟨gb745, 1, none⟩ = some (.int .i64 a1_1) ∧ w'.cell? ⟨gb745, 2, none⟩ = some (.int .i64 a1_2) ∧ w'.cell? ⟨gb745, 3, none⟩ = some (.string a1_3) ∧ w'.cell? (ad763.add ((t752).toNat * 4)) = some (.slice A763_0 ((rd_T43 l0_1 t752).f0).length c763_0) ∧ w'.cell? ⟨(ad763.add ((t752).toNat * 4)).block, (ad763.add ((t752).toNat * 4)).off + 1, none⟩ = some (.int .i64 ((rd_T43 l0_1 t752).f1)) ∧ w'.cell? ⟨(ad763.add ((t752).toNat * 4)).block, (ad763.add ((t752).toNat * 4)).off + 2, none⟩ = some (.int .i64 ((rd_T43 l0_1 t752).f2)) ∧ w'.cell? ⟨(ad763.add ((t752).toNat * 4)).block, (ad763.add ((t752).toNat * 4)).off + 3, none⟩ = some (.string ((rd_T43 l0_1 t752).f3))) (ds := []) #[f_,f_,f_,f_,f_,f_,f_,f_,f_] (by kernel_rfl) rfl rfl ⟨bx_ BK744.out 0, bx_ BK744.out 1, bx_ BK745.out 0, bx_ BK745.out 1, bx_ BK745.out 2, bx_ BK745.out 3, ((HB.out.cell (World.block_lt_of_cell? w _ hw763_0)).trans hw763_0), ((HB.out.cell (World.block_lt_of_cell? w _ hw763_1)).trans hw763_1), ((HB.out.cell (World.block_lt_of_cell? w _ hw763_2)).trans hw763_2), ((HB.out.cell (World.block_lt_of_cell? w _ hw763_3)).trans hw763_3)⟩ (fun hHeld => ?_); refine with_tabW spec_PutChain.tab7 spec_PutChain.bits7 (fun HT_ HW_ => ?_)
    generalize w62.drew = w63 at HO750 BK744 BK745 BK746 BK751 HB HR763_0 hx763_0 hx763_1 hx763_2 hx763_3 hHeld ⊢
    refine pw_ 0 27 (b_ 1 8) rfl rfl HT_.out ?_
    refine pw_ 2 29 #[t_,f_,t_,f_,f_,f_,f_,f_,f_] rfl rfl HT_.out ?_
    refine take_ (i := 1) (N := some 28) (v := ?_) (a' := ?_) #[t_,t_,t_,f_,f_,f_,f_,f_,f_] rfl rfl (take_ofW HT_.out HW_.out (by kernel_rfl)) (fun _ _ _ h => h) (Or.inl ⟨by rfl, ?_⟩) hHeld ?_ ?_
    rotate_left
    ·
     rintro w' ⟨s0, s1, s2, s3, s4, s5, s6, s7, s8, s9⟩
     go_simp
     with_reducible rfl
    rotate_left
    ·
     simp only [fr_]
     rfl
    refine pw_ 3 30 (b_ 4 5) rfl rfl HT_.out ?_
    refine take_ (i := 4) (N := some 31) (v := ?_) (a' := ?_) #[t_,t_,t_,t_,t_,f_,f_,f_,f_] rfl rfl (take_ofW HT_.out HW_.out (by kernel_rfl)) (fun _ _ _ h => h) (Or.inl ⟨by rfl, ?_⟩) hHeld ?_ ?_
    rotate_left
    ·
     rintro w' ⟨s0, s1, s2, s3, s4, s5, s6, s7, s8, s9⟩
     go_simp
     with_reducible rfl
    rotate_left
    ·
     simp only [fr_]
     rfl
    refine take_ (i := 5) (N := some 32) (v := ?_) (a' := ?_) #[t_,t_,t_,t_,t_,t_,f_,f_,f_] rfl rfl (take_ofW HT_.out HW_.out (by kernel_rfl)) (fun _ _ _ h => h) (Or.inl ⟨by rfl, ?_⟩) hHeld ?_ ?_
    rotate_left
    ·
     rintro w' ⟨s0, s1, s2, s3, s4, s5, s6, s7, s8, s9⟩
     go_simp
     with_reducible rfl
    rotate_left
    ·
     simp only [fr_]
     rfl
    refine join_ (σ := Value × Nat) 1 #[t_,t_,t_,t_,t_,t_,t_,t_,f_] (fun s_ => [(33, .agg #[s_.1, .int .i64 t767, .int .i64 t768, .string t769]), (9, .pointer (some ⟨s_.2, 0, none⟩))]) (fun s_ w' => (w'.cell? ⟨gb744, 0, none⟩ = some (.int .i64 a0_0) ∧ w'.cell? ⟨gb744, 1, none⟩ = some (.slice (some ad763) l0_1.length c0_1) ∧ w'.cell? ⟨gb745, 0, none⟩ = some (.slice A1_0 l1_0.length c1_0) ∧ w'.cell? ⟨gb745, 1, none⟩ = some (.int .i64 a1_1) ∧ w'.cell? ⟨gb745, 2, none⟩ = some (.int .i64 a1_2) ∧ w'.cell? ⟨gb745, 3, none⟩ = some (.string a1_3) ∧ w'.cell? (ad763.add ((t752).toNat * 4)) = some (.slice A763_0 ((rd_T43 l0_1 t752).f0).length c763_0) ∧ w'.cell? ⟨(ad763.add ((t752).toNat * 4)).block, (ad763.add ((t752).toNat * 4)).off + 1, none⟩ = some (.int .i64 ((rd_T43 l0_1 t752).f1)) ∧ w'.cell? ⟨(ad763.add ((t752).toNat * 4)).block, (ad763.add ((t752).toNat * 4)).off + 2, none⟩ = some (.int .i64 ((rd_T43 l0_1 t752).f2)) ∧ w'.cell? ⟨(ad763.add ((t752).toNat * 4)).block, (ad763.add ((t752).toNat * 4)).off + 3, none⟩ = some (.string ((rd_T43 l0_1 t752).f3))) ∧ (Kd.S k43 43 w' w.heap.size (fun k_ => some k_ ≠ (s_.1 : Value).ownBlock ∧ k_ ≠ gb745 ∧ k_ ≠ s_.2) (.slice Ao58 t748.length co58) t748) ∧ (Kd.R k88 88 w' w.heap.size (fun _ => True) s_.1 t764) ∧ (w'.heap[gb744]? = some (.cells #[.int .i64 a0_0, .slice (some ad763) l0_1.length c0_1] 100 (0, 0))) ∧ (w'.heap[gb745]? = some (.cells #[.slice A1_0 l1_0.length c1_0, .int .i64 a1_1, .int .i64 a1_2, .string a1_3] 43 (0, 0))) ∧ (w'.heap[gb746]? = some (.cells #[.int .i64 0, .slice none 0 0] 100 (0, 0))) ∧ (w'.heap[gb751]? = some (.cells #[.int .i64 t747, .slice Ao58 t748.length co58] 100 (0, 0))) ∧ (w'.heap[s_.2]? = some (.cells #[.slice none 0 0, .int .i64 0, .int .i64 0, .string (⟨#[]⟩ : ByteArray)] 43 (0, 0))) ∧ (w.heap.size ≤ s_.2) ∧ (w.heap.size ≤ s_.2) ∧ (gb744 ≠ s_.2) ∧ (s_.2 ≠ gb744) ∧ (gb745 ≠ s_.2) ∧ (s_.2 ≠ gb745) ∧ (gb746 ≠ s_.2) ∧ (s_.2 ≠ gb746) ∧ (gb751 ≠ s_.2) ∧ (s_.2 ≠ gb751) ∧ (Below w.heap.size w w')) ?_ ?_
    rotate_left
    ·
     intro hCont
     refine two_ (i := 6) (j := 7) (Ni := some 33) (Nj := some 9) #[t_,t_,t_,t_,t_,t_,t_,f_,f_] #[t_,t_,t_,t_,t_,t_,f_,t_,f_] rfl rfl rfl rfl (two_of HT_.out (by kernel_rfl)) (by decide) (by decide) (fun K hK => ?_) (fun K hK => ?_)
     ·
      skip
      refine gs_ Try.func109 #[.agg #[.slice A763_0 ((rd_T43 l0_1 t752).f0).length c763_0, .int .i64 ((rd_T43 l0_1 t752).f1), .int .i64 ((rd_T43 l0_1 t752).f2), .string ((rd_T43 l0_1 t752).f3)], .agg #[.slice A1_0 l1_0.length c1_0, .int .i64 a1_1, .int .i64 a1_2, .string a1_3]] ?_
      with_reducible refine (spec_Merge.calls _ _ ((rd_T43 l0_1 t752).f0) ((rd_T43 l0_1 t752).f1) ((rd_T43 l0_1 t752).f2) ((rd_T43 l0_1 t752).f3) _ _ l1_0 a1_1 a1_2 a1_3 t764 t767 t768 t769 _ ?side1 ?side2 ?side3 ?side4 A43.out).mono ?_
      (case side1 => exact cp_ ((Kd.C_below HR763_0.out HB.out)))
      (case side2 => exact HC763_0.out)
      (case side3 => exact cp_ ((Kd.C_below HR1_0.out HB.out)))
      (case side4 => exact HC1_0.out)
      rintro e w64 ⟨v765, rfl, ho0, hb⟩
      refine ⟨_, rfl, ?_⟩
      replace HO750 := Aside0.mk (Kd.S_elder' (sp_ HO750.out) (Kd.R_base ho0) hb)
      have HO766 := Aside0.mk (Kd.R_lower ho0 (below_size (hs_ HB.out)))
      replace BK744 := bk2_ BK744 hb
      replace BK745 := bk2_ BK745 hb
      replace BK746 := bk2_ BK746 hb
      replace BK751 := bk2_ BK751 hb
      replace HB := st_ HB hb
      (try clear hb)
      (try clear hk)
      (try clear ho0)
      refine hK.out _ _ ⟨bx_ BK744.out 0, bx_ BK744.out 1, bx_ BK745.out 0, bx_ BK745.out 1, bx_ BK745.out 2, bx_ BK745.out 3, ((HB.out.cell (World.block_lt_of_cell? w _ hw763_0)).trans hw763_0), ((HB.out.cell (World.block_lt_of_cell? w _ hw763_1)).trans hw763_1), ((HB.out.cell (World.block_lt_of_cell? w _ hw763_2)).trans hw763_2), ((HB.out.cell (World.block_lt_of_cell? w _ hw763_3)).trans hw763_3)⟩ (fun hHeld => ?_)
      clear hK K
      refine norm_ (a' := ?_) ?_ ?_
      rotate_left
      ·
       show Act.put _ (some 33) _ = _
       simp only [fr_]
       rfl
      refine one_ (i := 7) (N := some 9) #[t_,t_,t_,t_,t_,t_,t_,t_,f_] rfl rfl (one_of HT_.out (by kernel_rfl)) (by decide) (fun K hK => ?_)
      refine bs1_ 9 #[.slice none 0 0, .int .i64 0, .int .i64 0, .string (⟨#[]⟩ : ByteArray)] 43 ?_
      intro gb770 hg w65 hbox hb
      replace HO750 := Aside0.mk (Kd.S_below (Kd.S_elderB (sp_ HO750.out) gb770 (Nat.le_of_eq hg.symm)) hb)
      replace HO766 := Aside0.mk (Kd.R_below (rp_ HO766.out) hb)
      have BK770 := Aside0.mk (hbox)
      have GW770 := Aside0.mk ((gw_ hg (hs_ HB.out)))
      have GE770 := Ge_.mk ((gw_ hg (hs_ HB.out)))
      replace HB := st_ HB hb
      have NB744_770 := Ne_.mk (nl_ BK744.out hg)
      have NB770_744 := Ne_.mk (ng_ BK744.out hg)
      replace BK744 := bk2_ BK744 hb
      have NB745_770 := Ne_.mk (nl_ BK745.out hg)
      have NB770_745 := Ne_.mk (ng_ BK745.out hg)
      replace BK745 := bk2_ BK745 hb
      have NB746_770 := Ne_.mk (nl_ BK746.out hg)
      have NB770_746 := Ne_.mk (ng_ BK746.out hg)
      replace BK746 := bk2_ BK746 hb
      have NB751_770 := Ne_.mk (nl_ BK751.out hg)
      have NB770_751 := Ne_.mk (ng_ BK751.out hg)
      replace BK751 := bk2_ BK751 hb
      clear hb hbox hg
      refine hK.out _ _ ⟨bx_ BK744.out 0, bx_ BK744.out 1, bx_ BK745.out 0, bx_ BK745.out 1, bx_ BK745.out 2, bx_ BK745.out 3, ((HB.out.cell (World.block_lt_of_cell? w _ hw763_0)).trans hw763_0), ((HB.out.cell (World.block_lt_of_cell? w _ hw763_1)).trans hw763_1), ((HB.out.cell (World.block_lt_of_cell? w _ hw763_2)).trans hw763_2), ((HB.out.cell (World.block_lt_of_cell? w _ hw763_3)).trans hw763_3)⟩ (fun hHeld => ?_)
      clear hK K
      refine norm_ (a' := ?_) ?_ ?_
      rotate_left
      ·
       show Act.put _ (some 9) _ = _
       simp only [fr_]
       rfl
      exact norm_ (by simp only [putAll, fr_]) (hCont (v765, gb770) _ ⟨hHeld, (Kd.S_mono (sp_ HO750.out) (fun _ hk => ⟨hk.1.2, ⟨hk.1.1.2, hk.2⟩⟩)), (rp_ HO766.out), (pb_ BK744.out), (pb_ BK745.out), (pb_ BK746.out), (pb_ BK751.out), (pb_ BK770.out), GW770.out, GE770.out, NB744_770.out, NB770_744.out, NB745_770.out, NB770_745.out, NB746_770.out, NB770_746.out, NB751_770.out, NB770_751.out, (hs_ HB.out)⟩)
     skip
     refine bs1_ 9 #[.slice none 0 0, .int .i64 0, .int .i64 0, .string (⟨#[]⟩ : ByteArray)] 43 ?_
     intro gb770 hg w64 hbox hb
     replace HO750 := Aside0.mk (Kd.S_below (Kd.S_elderB (sp_ HO750.out) gb770 (Nat.le_of_eq hg.symm)) hb)
     have BK770 := Aside0.mk (hbox)
     have GW770 := Aside0.mk ((gw_ hg (hs_ HB.out)))
     have GE770 := Ge_.mk ((gw_ hg (hs_ HB.out)))
     replace HB := st_ HB hb
     have NB744_770 := Ne_.mk (nl_ BK744.out hg)
     have NB770_744 := Ne_.mk (ng_ BK744.out hg)
     replace BK744 := bk2_ BK744 hb
     have NB745_770 := Ne_.mk (nl_ BK745.out hg)
     have NB770_745 := Ne_.mk (ng_ BK745.out hg)
     replace BK745 := bk2_ BK745 hb
     have NB746_770 := Ne_.mk (nl_ BK746.out hg)
     have NB770_746 := Ne_.mk (ng_ BK746.out hg)
     replace BK746 := bk2_ BK746 hb
     have NB751_770 := Ne_.mk (nl_ BK751.out hg)
     have NB770_751 := Ne_.mk (ng_ BK751.out hg)
     replace BK751 := bk2_ BK751 hb
     clear hb hbox hg
     refine hK.out _ _ ⟨bx_ BK744.out 0, bx_ BK744.out 1, bx_ BK745.out 0, bx_ BK745.out 1, bx_ BK745.out 2, bx_ BK745.out 3, ((HB.out.cell (World.block_lt_of_cell? w _ hw763_0)).trans hw763_0), ((HB.out.cell (World.block_lt_of_cell? w _ hw763_1)).trans hw763_1), ((HB.out.cell (World.block_lt_of_cell? w _ hw763_2)).trans hw763_2), ((HB.out.cell (World.block_lt_of_cell? w _ hw763_3)).trans hw763_3)⟩ (fun hHeld => ?_)
     clear hK K
     refine norm_ (a' := ?_) ?_ ?_
     rotate_left
     ·
      show Act.put _ (some 9) _ = _
      simp only [fr_]
      rfl
     refine one_ (i := 6) (N := some 33) #[t_,t_,t_,t_,t_,t_,t_,t_,f_] rfl rfl (one_of HT_.out (by kernel_rfl)) (by decide) (fun K hK => ?_)
     refine gs_ Try.func109 #[.agg #[.slice A763_0 ((rd_T43 l0_1 t752).f0).length c763_0, .int .i64 ((rd_T43 l0_1 t752).f1), .int .i64 ((rd_T43 l0_1 t752).f2), .string ((rd_T43 l0_1 t752).f3)], .agg #[.slice A1_0 l1_0.length c1_0, .int .i64 a1_1, .int .i64 a1_2, .string a1_3]] ?_
     with_reducible refine (spec_Merge.calls _ _ ((rd_T43 l0_1 t752).f0) ((rd_T43 l0_1 t752).f1) ((rd_T43 l0_1 t752).f2) ((rd_T43 l0_1 t752).f3) _ _ l1_0 a1_1 a1_2 a1_3 t764 t767 t768 t769 _ ?side1 ?side2 ?side3 ?side4 A43.out).mono ?_
     (case side1 => exact cp_ ((Kd.C_below HR763_0.out HB.out)))
     (case side2 => exact HC763_0.out)
     (case side3 => exact cp_ ((Kd.C_below HR1_0.out HB.out)))
     (case side4 => exact HC1_0.out)
     rintro e w65 ⟨v765, rfl, ho0, hb⟩
     refine ⟨_, rfl, ?_⟩
     replace HO750 := Aside0.mk (Kd.S_elder' (sp_ HO750.out) (Kd.R_base ho0) hb)
     have HO766 := Aside0.mk (Kd.R_lower ho0 (below_size (hs_ HB.out)))
     replace BK744 := bk2_ BK744 hb
     replace BK745 := bk2_ BK745 hb
     replace BK746 := bk2_ BK746 hb
     replace BK751 := bk2_ BK751 hb
     replace BK770 := bk2_ BK770 hb
     replace HB := st_ HB hb
     (try clear hb)
     (try clear hk)
     (try clear ho0)
     refine hK.out _ _ ⟨bx_ BK744.out 0, bx_ BK744.out 1, bx_ BK745.out 0, bx_ BK745.out 1, bx_ BK745.out 2, bx_ BK745.out 3, ((HB.out.cell (World.block_lt_of_cell? w _ hw763_0)).trans hw763_0), ((HB.out.cell (World.block_lt_of_cell? w _ hw763_1)).trans hw763_1), ((HB.out.cell (World.block_lt_of_cell? w _ hw763_2)).trans hw763_2), ((HB.out.cell (World.block_lt_of_cell? w _ hw763_3)).trans hw763_3)⟩ (fun hHeld => ?_)
     clear hK K
     refine norm_ (a' := ?_) ?_ ?_
     rotate_left
     ·
      show Act.put _ (some 33) _ = _
      simp only [fr_]
      rfl
     exact norm_ (by simp only [putAll, fr_]) (hCont (v765, gb770) _ ⟨hHeld, (Kd.S_mono (sp_ HO750.out) (fun _ hk => ⟨hk.2, ⟨hk.1.1.2, hk.1.2⟩⟩)), (rp_ HO766.out), (pb_ BK744.out), (pb_ BK745.out), (pb_ BK746.out), (pb_ BK751.out), (pb_ BK770.out), GW770.out, GE770.out, NB744_770.out, NB770_744.out, NB745_770.out, NB770_745.out, NB746_770.out, NB770_746.out, NB751_770.out, NB770_751.out, (hs_ HB.out)⟩)
    rintro ⟨v765, gb770⟩ w66 ⟨hS_, h0_, h1_, h2_, h3_, h4_, h5_, h6_, h7_, h8_, h9_, h10_, h11_, h12_, h13_, h14_, h15_, h16_, h17_⟩
    replace HO750 : Aside0 (Kd.S k43 43 w66 w.heap.size (fun k_ => some k_ ≠ (v765 : Value).ownBlock ∧ k_ ≠ gb745 ∧ k_ ≠ gb770) (.slice Ao58 t748.length co58) t748) := ⟨h0_⟩
    have HO766 : Aside0 (Kd.R k88 88 w66 w.heap.size (fun _ => True) v765 t764) := ⟨h1_⟩
    replace BK744 : Aside0 (w66.heap[gb744]? = some (.cells #[.int .i64 a0_0, .slice (some ad763) l0_1.length c0_1] 100 (0, 0))) := ⟨h2_⟩
    replace BK745 : Aside0 (w66.heap[gb745]? = some (.cells #[.slice A1_0 l1_0.length c1_0, .int .i64 a1_1, .int .i64 a1_2, .string a1_3] 43 (0, 0))) := ⟨h3_⟩
    replace BK746 : Aside0 (w66.heap[gb746]? = some (.cells #[.int .i64 0, .slice none 0 0] 100 (0, 0))) := ⟨h4_⟩
    replace BK751 : Aside0 (w66.heap[gb751]? = some (.cells #[.int .i64 t747, .slice Ao58 t748.length co58] 100 (0, 0))) := ⟨h5_⟩
    have BK770 : Aside0 (w66.heap[gb770]? = some (.cells #[.slice none 0 0, .int .i64 0, .int .i64 0, .string (⟨#[]⟩ : ByteArray)] 43 (0, 0))) := ⟨h6_⟩
    have GW770 : Aside0 (w.heap.size ≤ gb770) := ⟨h7_⟩
    have GE770 := Ge_.mk h8_
    have NB744_770 := Ne_.mk h9_
    have NB770_744 := Ne_.mk h10_
    have NB745_770 := Ne_.mk h11_
    have NB770_745 := Ne_.mk h12_
    have NB746_770 := Ne_.mk h13_
    have NB770_746 := Ne_.mk h14_
    have NB751_770 := Ne_.mk h15_
    have NB770_751 := Ne_.mk h16_
    replace HB : Aside0 (Below w.heap.size w w66) := ⟨h17_⟩
    clear h0_ h1_ h2_ h3_ h4_ h5_ h6_ h7_ h8_ h9_ h10_ h11_ h12_ h13_ h14_ h15_ h16_ h17_
    have hHeld : w66.cell? ⟨gb744, 0, none⟩ = some (.int .i64 a0_0) ∧ w66.cell? ⟨gb744, 1, none⟩ = some (.slice (some ad763) l0_1.length c0_1) ∧ w66.cell? ⟨gb745, 0, none⟩ = some (.slice A1_0 l1_0.length c1_0) ∧ w66.cell? ⟨gb745, 1, none⟩ = some (.int .i64 a1_1) ∧ w66.cell? ⟨gb745, 2, none⟩ = some (.int .i64 a1_2) ∧ w66.cell? ⟨gb745, 3, none⟩ = some (.string a1_3) ∧ w66.cell? (ad763.add ((t752).toNat * 4)) = some (.slice A763_0 ((rd_T43 l0_1 t752).f0).length c763_0) ∧ w66.cell? ⟨(ad763.add ((t752).toNat * 4)).block, (ad763.add ((t752).toNat * 4)).off + 1, none⟩ = some (.int .i64 ((rd_T43 l0_1 t752).f1)) ∧ w66.cell? ⟨(ad763.add ((t752).toNat * 4)).block, (ad763.add ((t752).toNat * 4)).off + 2, none⟩ = some (.int .i64 ((rd_T43 l0_1 t752).f2)) ∧ w66.cell? ⟨(ad763.add ((t752).toNat * 4)).block, (ad763.add ((t752).toNat * 4)).off + 3, none⟩ = some (.string ((rd_T43 l0_1 t752).f3)) := hS_
    obtain ⟨Ao67, co67, eo67⟩ := Kd.R_slice HO766.out
    (first | subst eo67 | (obtain ⟨rfl, rfl⟩ := si_ eo67))
    refine norm_ (a' := ?_) ?_ ?_
    rotate_left
    ·
     simp only [putAll, fr_]
     rfl
    refine one_ (i := 8) (N := none) #[t_,t_,t_,t_,t_,t_,t_,t_,t_] rfl rfl (one_of HT_.out (by kernel_rfl)) (by decide) (fun K hK => ?_)
    have hs68 : w66.cell? ⟨gb770, 0, none⟩ = some (.slice none 0 0) := bx_ BK770.out 0
    have hfs68 := blk_frozen BK770.out 0
    have hns68_0 := NB744_770.out
    have hns68_1 := NB745_770.out
    have hns68_2 := NB746_770.out
    have hns68_3 := NB751_770.out
    have hms68_0 := NB770_744.out
    have hms68_1 := NB770_745.out
    have hms68_2 := NB770_746.out
    have hms68_3 := NB770_751.out
    have hs69 : w66.cell? ⟨gb770, 1, none⟩ = some (.int .i64 0) := bx_ BK770.out 1
    have hfs69 := blk_frozen BK770.out 1
    have hns69_0 := NB744_770.out
    have hns69_1 := NB745_770.out
    have hns69_2 := NB746_770.out
    have hns69_3 := NB751_770.out
    have hms69_0 := NB770_744.out
    have hms69_1 := NB770_745.out
    have hms69_2 := NB770_746.out
    have hms69_3 := NB770_751.out
    have hs70 : w66.cell? ⟨gb770, 2, none⟩ = some (.int .i64 0) := bx_ BK770.out 2
    have hfs70 := blk_frozen BK770.out 2
    have hns70_0 := NB744_770.out
    have hns70_1 := NB745_770.out
    have hns70_2 := NB746_770.out
    have hns70_3 := NB751_770.out
    have hms70_0 := NB770_744.out
    have hms70_1 := NB770_745.out
    have hms70_2 := NB770_746.out
    have hms70_3 := NB770_751.out
    have hs71 : w66.cell? ⟨gb770, 3, none⟩ = some (.string (⟨#[]⟩ : ByteArray)) := bx_ BK770.out 3
    have hfs71 := blk_frozen BK770.out 3
    have hns71_0 := NB744_770.out
    have hns71_1 := NB745_770.out
    have hns71_2 := NB746_770.out
    have hns71_3 := NB751_770.out
    have hms71_0 := NB770_744.out
    have hms71_1 := NB770_745.out
    have hms71_2 := NB770_746.out
    have hms71_3 := NB770_751.out
    refine skip_ (w1 := ?_) (by rfl) rfl ?_ ?_
    rotate_left
    ·
     go_simp
     rfl
    refine hK.out _ _ ⟨(cg_ (hHeld.1)), (cg_ (hHeld.2.1)), (cg_ (hHeld.2.2.1)), (cg_ (hHeld.2.2.2.1)), (cg_ (hHeld.2.2.2.2.1)), (cg_ (hHeld.2.2.2.2.2.1)), (ce_ hw763_0 GW770.out ((ce_ hw763_0 GW770.out ((ce_ hw763_0 GW770.out ((ce_ hw763_0 GW770.out (hHeld.2.2.2.2.2.2.1)))))))), (ce_ hw763_1 GW770.out ((ce_ hw763_1 GW770.out ((ce_ hw763_1 GW770.out ((ce_ hw763_1 GW770.out (hHeld.2.2.2.2.2.2.2.1)))))))), (ce_ hw763_2 GW770.out ((ce_ hw763_2 GW770.out ((ce_ hw763_2 GW770.out ((ce_ hw763_2 GW770.out (hHeld.2.2.2.2.2.2.2.2.1)))))))), (ce_ hw763_3 GW770.out ((ce_ hw763_3 GW770.out ((ce_ hw763_3 GW770.out ((ce_ hw763_3 GW770.out (hHeld.2.2.2.2.2.2.2.2.2))))))))⟩ (fun hHeld => ?_)
    clear hK K
    refine done_ (done_of HT_.out (by kernel_rfl)) ?_
    generalize hw_ : ((((w66.setCell ⟨gb770, 0, none⟩ (.slice Ao67 t764.length co67)).setCell ⟨gb770, 1, none⟩ (.int .i64 t767)).setCell ⟨gb770, 2, none⟩ (.int .i64 t768)).setCell ⟨gb770, 3, none⟩ (.string t769)) = w72
    have n0_ : Aside0 (Kd.S k43 43 w72 w.heap.size (fun k_ => some k_ ≠ (.slice Ao67 t764.length co67 : Value).ownBlock ∧ k_ ≠ gb745 ∧ k_ ≠ gb770) (.slice Ao58 t748.length co58) t748) := ⟨by rw [← hw_]; exact (Kd.S_mono (sf_ gb770 (Kd.S_mono HO750.out (fun k_ hk => (⟨hk, hk.2.2⟩ : _ ∧ k_ ≠ gb770))) (fun _ hk => hk.2)) (fun _ hk => ⟨hk.1.1, ⟨hk.1.2.1, hk.1.2.2⟩⟩))⟩
    have n1_ : Aside0 (Kd.R k88 88 w72 w.heap.size (fun _ => True) (.slice Ao67 t764.length co67) t764) := ⟨by rw [← hw_]; exact (Kd.R_mono (rf_ gb770 (Kd.R_types HO766.out BK770.out (by decide)) (fun _ hk => hk.2)) (fun _ hk => trivial))⟩
    have n2_ : Aside0 (w72.heap[gb744]? = some (.cells #[.int .i64 a0_0, .slice (some ad763) l0_1.length c0_1] 100 (0, 0))) := ⟨by rw [← hw_]; exact (bq_ BK744.out)⟩
    have n3_ : Aside0 (w72.heap[gb745]? = some (.cells #[.slice A1_0 l1_0.length c1_0, .int .i64 a1_1, .int .i64 a1_2, .string a1_3] 43 (0, 0))) := ⟨by rw [← hw_]; exact (bq_ BK745.out)⟩
    have n4_ : Aside0 (w72.heap[gb746]? = some (.cells #[.int .i64 0, .slice none 0 0] 100 (0, 0))) := ⟨by rw [← hw_]; exact (bq_ BK746.out)⟩
    have n5_ : Aside0 (w72.heap[gb751]? = some (.cells #[.int .i64 t747, .slice Ao58 t748.length co58] 100 (0, 0))) := ⟨by rw [← hw_]; exact (bq_ BK751.out)⟩
    have n6_ : Aside0 (w72.heap[gb770]? = some (.cells #[.slice Ao67 t764.length co67, .int .i64 t767, .int .i64 t768, .string t769] 43 (0, 0))) := ⟨by rw [← hw_]; exact (bp_ BK770.out)⟩
    have n7_ : Aside0 (Below w.heap.size w w72) := ⟨by rw [← hw_]; exact (hs_ HB.out)⟩
    clear hw_
    (try clear HO750)
    (try clear HO766)
    (try clear BK744)
    (try clear BK745)
    (try clear BK746)
    (try clear BK751)
    (try clear BK770)
    (try clear HB)
    have HO750 := n0_
    have HO766 := n1_
    have BK744 := n2_
    have BK745 := n3_
    have BK746 := n4_
    have BK751 := n5_
    have BK770 := n6_
    have HB := n7_
    clear n0_ n1_ n2_ n3_ n4_ n5_ n6_ n7_
    have hnb73 := NB751_770.out
    have hnc73 := NB770_751.out
    obtain ⟨z74_0, z74_1, y74_0, y74_1⟩ := bc2_ BK751.out
    have hnb75 := NB770_744.out
    have hnc75 := NB744_770.out
    have hnb76 := NB770_745.out
    have hnc76 := NB745_770.out
    have hnb77 := NB770_746.out
    have hnc77 := NB746_770.out
    obtain ⟨z78_0, z78_1, z78_2, z78_3, y78_0, y78_1, y78_2, y78_3⟩ := bc4_ BK770.out
    have p45 : 0 ≤ (t752 : Int) := of_decide_eq_true (by with_reducible assumption)
    have q45 : (t752 : Int) < ((t748.length : Int) : Int) := of_decide_eq_true (by with_reducible assumption)
    obtain ⟨go45, co45, eo45, gb45, gl45, cl45, HG45⟩ := Kd.S_form HO750.out (by omega)
    (first | cases eo45 | (injection eo45 with ea_ en_ ec_; (first | subst ea_ | (injection ea_ with ea_; subst ea_)); subst ec_; clear en_))
    have GB45 := Aside0.mk gb45
    have GG45 := Aside0.mk HG45
    clear gb45 gl45 HG45
    obtain ⟨_, ce45, hcl45, hM45, hcc45, hfr45, _, _⟩ := Kd.S_elem HO750.out z43 (t752 : Int) p45 q45
    obtain ⟨ve45_0, rfl, ge45_0⟩ := k43_openM hM45
    have hx45_0 : w72.cell? ⟨go45, (t752 : Int).toNat * 4, none⟩ = some (ve45_0) := hcc45 0 _ rfl
    have hx45_1 : w72.cell? ⟨go45, (t752 : Int).toNat * 4 + 1, none⟩ = some (.int .i64 ((rd_T43 t748 t752).f1)) := hcc45 1 _ rfl
    have hx45_2 : w72.cell? ⟨go45, (t752 : Int).toNat * 4 + 2, none⟩ = some (.int .i64 ((rd_T43 t748 t752).f2)) := hcc45 2 _ rfl
    have hx45_3 : w72.cell? ⟨go45, (t752 : Int).toNat * 4 + 3, none⟩ = some (.string ((rd_T43 t748 t752).f3)) := hcc45 3 _ rfl
    have hf45_0 : w72.frozen? ⟨go45, (t752 : Int).toNat * 4, none⟩ = false := hfr45 0
    have hf45_1 : w72.frozen? ⟨go45, (t752 : Int).toNat * 4 + 1, none⟩ = false := hfr45 1
    have hf45_2 : w72.frozen? ⟨go45, (t752 : Int).toNat * 4 + 2, none⟩ = false := hfr45 2
    have hf45_3 : w72.frozen? ⟨go45, (t752 : Int).toNat * 4 + 3, none⟩ = false := hfr45 3
    clear hcl45 hcc45 hfr45 hM45
    replace p45 := eq_true p45
    replace q45 := eq_true q45
    have HX79 := Aside0.mk (show Kd.S k43 43 w72 w.heap.size (fun k_ => ((fun k_ => k_ ≠ gb745 ∧ k_ ≠ gb770)) k_ ∧ ¬ ((fun k_ => some k_ = (.slice Ao67 t764.length co67 : Value).ownBlock)) k_) (.slice (some ⟨go45, 0, none⟩) t748.length co58) t748 from (Kd.S_mono (sp_ HO750.out) (fun k_ hk => ⟨⟨hk.2.1, hk.2.2⟩, fun e_ => hk.1 e_⟩)))
    obtain ⟨oki79, ce79, hcl79, hM79, hcc79, hfr79, hoki79, hH79⟩ := Kd.S_elem HX79.out z43 (t752 : Int) (of_decide_eq_true (by with_reducible assumption)) (by have h_ : (t752 : Int) < ((t748.length : Int) : Int) := of_decide_eq_true (by with_reducible assumption); first | exact h_ | (have e_ := (Kd.S_reads' HO750.out).1; omega) | simpa using h_)
    obtain ⟨ve79_0, rfl, ge79_0⟩ := k43_openM hM79
    have HP79 := Kd.S_seg hH79 (of_decide_eq_true (by with_reducible assumption)) (by have h_ : (t752 : Int) < ((t748.length : Int) : Int) := of_decide_eq_true (by with_reducible assumption); first | exact h_ | (have e_ := (Kd.S_reads' HO750.out).1; omega) | simpa using h_) (seg := [.slice Ao67 t764.length co67, .int .i64 t767, .int .i64 t768, .string t769]) (j := 0) (show 4 ≤ 4 from by decide) (x' := (⟨t764, t767, t768, t769⟩ : S43)) (k43_mkM _ _ _ (⟨t764, t767, t768, t769⟩ : S43) (Kd.R_mono (Kd.R_tight rfl (Kd.R_mono (ok' := fun k_ => ((fun k_ => k_ ≠ gb745 ∧ k_ ≠ gb770)) k_ ∧ k_ ≠ go45) (Kd.R_types (Kd.R_types (Kd.R_apart' (HO766.out) (Kd.S_typed HO750.out) (by decide)) BK745.out (by decide)) BK770.out (by decide)) (fun k_ hk => ⟨⟨hk.1.2, hk.2⟩, fun e_ => (hk.1.1.2) (by rw [e_]; rfl)⟩))) (fun _ h_ => Or.inr (h_)))) (fun _ hk => hk) (fun k_ hk_ => ((Kd.R_mono (ok' := fun k_ => ((fun k_ => k_ ≠ gb745 ∧ k_ ≠ gb770)) k_ ∧ k_ ≠ go45) (Kd.R_types (Kd.R_types (Kd.R_apart' (HO766.out) (Kd.S_typed HO750.out) (by decide)) BK745.out (by decide)) BK770.out (by decide)) (fun k_ hk => ⟨⟨hk.1.2, hk.2⟩, fun e_ => (hk.1.1.2) (by rw [e_]; rfl)⟩))).1 k_ hk_.symm)
    have hx79_0 := hcc79 0 _ rfl
    (try simp only [show (k43).sz = 4 from rfl, Nat.mul_one, Nat.add_zero] at hx79_0)
    have hf79_0 := hfr79 0
    (try simp only [show (k43).sz = 4 from rfl, Nat.mul_one, Nat.add_zero] at hf79_0)
    have hx79_1 := hcc79 1 _ rfl
    (try simp only [show (k43).sz = 4 from rfl, Nat.mul_one, Nat.add_zero] at hx79_1)
    have hf79_1 := hfr79 1
    (try simp only [show (k43).sz = 4 from rfl, Nat.mul_one, Nat.add_zero] at hf79_1)
    have hx79_2 := hcc79 2 _ rfl
    (try simp only [show (k43).sz = 4 from rfl, Nat.mul_one, Nat.add_zero] at hx79_2)
    have hf79_2 := hfr79 2
    (try simp only [show (k43).sz = 4 from rfl, Nat.mul_one, Nat.add_zero] at hf79_2)
    have hx79_3 := hcc79 3 _ rfl
    (try simp only [show (k43).sz = 4 from rfl, Nat.mul_one, Nat.add_zero] at hx79_3)
    have hf79_3 := hfr79 3
    (try simp only [show (k43).sz = 4 from rfl, Nat.mul_one, Nat.add_zero] at hf79_3)
    clear hcl79 hcc79 hfr79 hM79 hoki79 hH79
    try go_wp2_with (first | ((with_reducible refine gate_store (t := 43) (p := 38) rfl ?_); refine store_event (t := 43) (p := 38) (v := ?vo_w80) (w1 := ((((w72.setCell ⟨go45, (t752 : Int).toNat * 4, none⟩ (.slice Ao67 t764.length co67)).setCell ⟨go45, (t752 : Int).toNat * 4 + 1, none⟩ (.int .i64 t767)).setCell ⟨go45, (t752 : Int).toNat * 4 + 2, none⟩ (.int .i64 t768)).setCell ⟨go45, (t752 : Int).toNat * 4 + 3, none⟩ (.string t769))) ?hg ?ho ?hn ?hr ?_; (case ho => rfl); (case hg => rfl); (case hn => rfl); (case hr => first | (go_simp; done) | (go_simp; rfl)); intro w80 hw; have hg : w72.grownBy w80 (some go45) := (by rw [hw]; exact HP79.2); have hp_ : Kd.S k43 43 w80 w.heap.size (fun k_ => k_ ≠ gb745 ∧ k_ ≠ gb770) (.slice (some ⟨go45, 0, none⟩) t748.length co58) y771 := (by rw [hw, Ny771.out]; exact HP79.1); clear HP79; replace BK744 := Aside0.mk (blk_grown (bq_ BK744.out) hg (Kd.S_ne HO750.out BK744.out (by decide))); replace BK745 := Aside0.mk (blk_grown (bq_ BK745.out) hg (Kd.S_away HO750.out (fun _ hk => hk.2.1))); replace BK746 := Aside0.mk (blk_grown (bq_ BK746.out) hg (Kd.S_ne HO750.out BK746.out (by decide))); replace BK751 := Aside0.mk (blk_grown (bq_ BK751.out) hg (Kd.S_ne HO750.out BK751.out (by decide))); replace BK770 := Aside0.mk (blk_grown (bq_ BK770.out) hg (Kd.S_away HO750.out (fun _ hk => hk.2.2))); replace HO750 := Aside0.mk (hp_); replace HB := Aside0.mk ((by rw [hw]; exact below_set (below_set (below_set (below_set (HB.out) GB45.out) GB45.out) GB45.out) GB45.out : Below w.heap.size w w80)); clear HO766; clear hg hw hp_; obtain ⟨z81_0, z81_1, y81_0, y81_1⟩ := bc2_ BK751.out; obtain ⟨z82_0, z82_1, y82_0, y82_1⟩ := bc2_ BK746.out))
    refine bodyPost_ret (results_ct rfl _ _ gb746 100 #[.int .i64 t747, .slice (some ⟨go45, 0, none⟩) t748.length co58] (0, 0) _ rfl (bp_ BK746.out) Try.underlying100 rfl (by kernel_rfl)) rfl ?_
    exact ⟨_, by first | rfl | (simp [errW_none, errW_some] <;> rfl) | (simp [*, errW_none, errW_some] <;> rfl), by (with_reducible repeat (first | apply Kd.S_alloc | apply Kd.S_drewN | apply Kd.S_drew)); exact Kd.S_mono (sf_ gb746 (Kd.S_types HO750.out BK746.out (by decide)) (fun _ hk => hk.2)) (fun _ hk => trivial), by exact hs_ HB.out⟩
   rw [if_neg c44] at H
   exact absurd H (by simp)
  rw [if_neg c42] at H
  exact absurd H (by simp)
 rw [if_neg c41] at H
 exact absurd H (by simp)
end Go.Proofs.Yticgekgojgkbgaa.Print
end
