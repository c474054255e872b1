-- Written by printx.py, a program of this session (wip/gen), over the kit's print.py.
import Derived.Test.YtfholjcelnkleaaF0
import Derived.Test.YtfholjcelnkleaaQMark
import Derived.Test.YtfholjcelnkleaaF43
namespace Go.Proofs.Ytfholjcelnkleaa.Print
open Go.RowKit Go.Proofs.YtfholjcelnkleaaV.PrintWords Go.Proofs.YtfholjcelnkleaaV.PrintLast Go.Proofs.YtfholjcelnkleaaV.PrintMore
attribute [local go_sem] max2_int min2_int max_two min_two max_three min_three max_four min_four   -- for this text's walks alone
set_option linter.unusedVariables false
set_option linter.unusedSimpArgs false

/-! ### laws_markSub: function 28 -/
def laws_markSub.f (k : Nat) (l0_0 : List (S44)) (a0_1 : Bool) (a1 : Int) : Option (Int × (List (S44))) := (laws_markAlarmS.f k l0_0 a1).bind fun b0 => (some (b0.1, b0.2))
theorem laws_markSub.mono : ∀ a0 a1 a2 k, LeO (laws_markSub.f k a0 a1 a2) (laws_markSub.f (k + 1) a0 a1 a2) := by
 intro a0 a1 a2 k
 unfold laws_markSub.f
 repeat' first
   | (with_reducible exact laws_markAlarmS.mono _ _ _)
   | (with_reducible exact LeO.refl _)
   | (with_reducible exact LeO.none _)
   | (with_reducible refine LeO.ite ?_ ?_)
   | (with_reducible refine LeO.bind ?_ (fun _ => ?_))
   | exact laws_markAlarmS.mono _ _ _
   | exact LeO.none _
   | refine LeO.ite ?_ ?_
   | refine LeO.bind ?_ (fun _ => ?_)
set_option maxHeartbeats 8000000 in
set_option maxRecDepth 100000 in
theorem laws_markSub.calls (k : Nat) (P0_0_ : Nat → Prop) (u9000_ : Value) (l0_0 : List (S44)) (a0_1 : Bool) (a1 : Int) (r1 : Int) (r2 : List (S44)) (w0 w : World) (hB : Below w0.heap.size w0 w) (ho0_0 : Kd.S k44 44 w w0.heap.size P0_0_ u9000_ l0_0) (h : laws_markSub.f k l0_0 a0_1 a1 = some (r1, r2)) :
  Calls Try.prog 28 #[.agg #[u9000_, .bool a0_1], .int .i64 a1] w fun e w' => e = .returned (.int .i64 r1) ∧ Kd.S k44 44 w' w0.heap.size P0_0_ u9000_ r2 ∧ Below w0.heap.size w0 w' ∧ Kept w w' (fun k_ => P0_0_ k_) := by
 have HK := Aside0.mk (Kept.refl w (fun k_ => P0_0_ k_))
 have HB := Aside0.mk hB
 have HO0 := Aside0.mk ho0_0
 clear ho0_0
 unfold laws_markSub.f at h
 obtain ⟨⟨t0, s0⟩, A0_, h⟩ := Option.bind_eq_some_iff.mp h
 have A0 := Aside0.mk A0_; clear A0_; dsimp only at h A0
 simp only [Option.some.injEq, Prod.mk.injEq] at h
 obtain ⟨rfl, rfl⟩ := h
 go_enter Try.func28, Try.ntmps28
 go_wp2_with (first | ((with_reducible refine gate_dst (N := 2) rfl ?_); refine box_event ?hg (N := 2) ?hd (cs := #[u9000_, .bool a0_1]) (t := 39) ?hr ?_; (case hd => rfl); (case hg => rfl); (case hr => first | (go_simp; done) | (go_simp; rfl)); intro gb hg wb hbox hb; have BK := Aside0.mk hbox; have n0_ := Aside0.mk (Kd.S_below (by (with_reducible repeat (first | apply Kd.S_alloc | apply Kd.S_drewN | apply Kd.S_drew)); exact HO0.out) hb); have n1_ := Aside0.mk (Kept.below (by repeat (first | (with_reducible first | exact HK.out | apply Kept.alloc | apply Kept.drewN | apply Kept.drew) | exact HK.out)) hb); have n2_ := Aside0.mk (below_step (by repeat (first | (with_reducible first | exact HB.out | apply below_alloc | apply pw_below_drewN | apply below_drew1) | exact HB.out)) hb); clear HO0 HK HB; have HO0 := n0_; have HK := n1_; have HB := n2_; clear n0_ n1_ n2_; clear hb hbox hg; have hxwb_0 : wb.cell? ⟨gb, 0, none⟩ = some (u9000_) := (blk_cell BK.out 0).trans rfl; have hxwb_1 : wb.cell? ⟨gb, 1, none⟩ = some (.bool a0_1) := (blk_cell BK.out 1).trans rfl; have hfwb_0 := blk_frozen BK.out 0; have hfwb_1 := blk_frozen BK.out 1) | ((with_reducible refine gate_callee (f := 39) rfl ?_); refine goesL_ (some 8) rfl rfl Try.func39 (by kernel_rfl) rfl #[u9000_, .int .i64 a1] rfl (by (try simp only [List.map_toArray, List.map_cons, List.map_nil]); first | done | rfl | (simp only [List.length_drop, List.length_take]; rfl)) ?_; obtain ⟨PX0, hPX0, hPl0⟩ := Kd.S_fp HO0.out; (with_reducible refine (laws_markAlarmS.calls k PX0 u9000_ l0_0 a1 t0 s0 w0 _ HB.out hPX0 A0.out).mono ?_); rintro e wc0 ⟨rfl, hy, hb, hkp⟩; refine ⟨_, rfl, ?_⟩; have n0_ := Aside0.mk (Kd.S_mono hy (fun k_ h_ => (hPl0 k_ h_).1)); have n1_ := Aside0.mk (Kept.then_ HK.out hkp (fun k_ h_ => .inl ((hPl0 k_ h_).1))); have n2_ := Aside0.mk (blk_kept BK.out hkp (fun h_ => no_blk BK.out (by decide) (hPl0 _ h_).2.2)); have n3_ := Aside0.mk (hb); clear HO0 HK BK HB; have HO0 := n0_; have HK := n1_; have BK := n2_; have HB := n3_; clear n0_ n1_ n2_ n3_; clear hkp hPX0 hPl0 hy hb; have hxwc0_0 : wc0.cell? ⟨gb, 0, none⟩ = some (u9000_) := (blk_cell BK.out 0).trans rfl; have hxwc0_1 : wc0.cell? ⟨gb, 1, none⟩ = some (.bool a0_1) := (blk_cell BK.out 1).trans rfl; have hfwc0_0 := blk_frozen BK.out 0; have hfwc0_1 := blk_frozen BK.out 1))
 go_ret
 exact ⟨by first | rfl | (simp [*] <;> rfl), (by (with_reducible repeat (first | apply Kd.S_alloc | apply Kd.S_drewN | apply Kd.S_drew)); exact HO0.out), (by repeat (first | (with_reducible first | exact HB.out | apply below_alloc | apply pw_below_drewN | apply below_drew1) | exact HB.out)), (by repeat (first | (with_reducible first | exact HK.out | apply Kept.alloc | apply Kept.drewN | apply Kept.drew) | exact HK.out))⟩

end Go.Proofs.Ytfholjcelnkleaa.Print
