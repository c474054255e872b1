-- Written by printx.py, a program of this session (wip/gen), over the kit's print.py.
import Derived.Test.YtmmaondenopnpaaF0
import Derived.Test.YtmmaondenopnpaaQMark
import Derived.Test.YtmmaondenopnpaaF56
import Derived.Test.YtmmaondenopnpaaF58
import Derived.Test.YtmmaondenopnpaaF62
import Derived.Test.YtmmaondenopnpaaF67
import Derived.Test.YtmmaondenopnpaaF71
namespace Go.Proofs.Ytmmaondenopnpaa.Print
open Go.RowKit Go.Proofs.YtmmaondenopnpaaV.PrintWords Go.Proofs.YtmmaondenopnpaaV.PrintLast Go.Proofs.YtmmaondenopnpaaV.PrintMore
attribute [local go_sem] max2_int min2_int max_two min_two max_three min_three max_four min_four   -- for this text's walks alone
set_option linter.unusedVariables false
set_option linter.unusedSimpArgs false

/-! ### laws_FnExactStoreNew: function 9 -/
def laws_FnExactStoreNew.f (k : Nat) (a0 : Int) : Option (Bool) := (spec_StoreNew.f k a0).bind fun t636 => ((impl_StoreNew.f k a0).bind fun t639 => ((laws_eqPartS.f k t639 t636).bind fun t642 => (if t642 = true then ((laws_markPartS.f k t639 1).bind fun bt643 => ((laws_heldPartS.f k bt643.2 1).bind fun t645 => (if t645 < 0 then (none) else (if t645 = bt643.1 then ((impl_StoreNew.f k a0).bind fun t646 => ((laws_eqPartS.f k t646 t636).bind fun t649 => (if t649 = true then ((laws_heldPartS.f k bt643.2 1).bind fun t650 => (if t650 < 0 then (none) else (if t650 = bt643.1 then (some true) else (none)))) else (none)))) else (none))))) else (none))))
theorem laws_FnExactStoreNew.mono : ∀ a0 k, LeO (laws_FnExactStoreNew.f k a0) (laws_FnExactStoreNew.f (k + 1) a0) := by
 intro a0 k
 unfold laws_FnExactStoreNew.f
 repeat' first
   | (with_reducible exact impl_StoreNew.mono _ _)
   | (with_reducible exact laws_eqPartS.mono _ _ _)
   | (with_reducible exact laws_heldPartS.mono _ _ _)
   | (with_reducible exact laws_markPartS.mono _ _ _)
   | (with_reducible exact spec_StoreNew.mono _ _)
   | (with_reducible exact LeO.refl _)
   | (with_reducible exact LeO.none _)
   | (with_reducible refine LeO.ite ?_ ?_)
   | (with_reducible refine LeO.bind ?_ (fun _ => ?_))
   | exact impl_StoreNew.mono _ _
   | exact laws_eqPartS.mono _ _ _
   | exact laws_heldPartS.mono _ _ _
   | exact laws_markPartS.mono _ _ _
   | exact spec_StoreNew.mono _ _
   | exact LeO.none _
   | refine LeO.ite ?_ ?_
   | refine LeO.bind ?_ (fun _ => ?_)
set_option maxHeartbeats 8000000 in
set_option maxRecDepth 100000 in
theorem laws_FnExactStoreNew.calls (k : Nat) (a0 : Int) (r : Bool) (w : World) (h : laws_FnExactStoreNew.f k a0 = some r) :
  Calls Try.prog 9 #[.int .i64 a0] w fun e w' => e = .returned (.bool r) ∧ Below w.heap.size w w' := by
 have HB := Aside0.mk (Below.refl w.heap.size w)
 have H : ((spec_StoreNew.f k a0).bind fun t636 => ((impl_StoreNew.f k a0).bind fun t639 => ((laws_eqPartS.f k t639 t636).bind fun t642 => (if t642 = true then ((laws_markPartS.f k t639 1).bind fun bt643 => ((laws_heldPartS.f k bt643.2 1).bind fun t645 => (if t645 < 0 then (none) else (if t645 = bt643.1 then ((impl_StoreNew.f k a0).bind fun t646 => ((laws_eqPartS.f k t646 t636).bind fun t649 => (if t649 = true then ((laws_heldPartS.f k bt643.2 1).bind fun t650 => (if t650 < 0 then (none) else (if t650 = bt643.1 then (some true) else (none)))) else (none)))) else (none))))) else (none))))) = some r := h
 clear h
 replace H := Option.bind_eq_some_iff.mp H
 obtain ⟨t636, A20, H⟩ := H
 replace H : ((impl_StoreNew.f k a0).bind fun t639 => ((laws_eqPartS.f k t639 t636).bind fun t642 => (if t642 = true then ((laws_markPartS.f k t639 1).bind fun bt643 => ((laws_heldPartS.f k bt643.2 1).bind fun t645 => (if t645 < 0 then (none) else (if t645 = bt643.1 then ((impl_StoreNew.f k a0).bind fun t646 => ((laws_eqPartS.f k t646 t636).bind fun t649 => (if t649 = true then ((laws_heldPartS.f k bt643.2 1).bind fun t650 => (if t650 < 0 then (none) else (if t650 = bt643.1 then (some true) else (none)))) else (none)))) else (none))))) else (none)))) = some r := H
 have A2 := Aside0.mk A20
 clear A20
 replace H := Option.bind_eq_some_iff.mp H
 obtain ⟨t639, A30, H⟩ := H
 replace H : ((laws_eqPartS.f k t639 t636).bind fun t642 => (if t642 = true then ((laws_markPartS.f k t639 1).bind fun bt643 => ((laws_heldPartS.f k bt643.2 1).bind fun t645 => (if t645 < 0 then (none) else (if t645 = bt643.1 then ((impl_StoreNew.f k a0).bind fun t646 => ((laws_eqPartS.f k t646 t636).bind fun t649 => (if t649 = true then ((laws_heldPartS.f k bt643.2 1).bind fun t650 => (if t650 < 0 then (none) else (if t650 = bt643.1 then (some true) else (none)))) else (none)))) else (none))))) else (none))) = some r := H
 have A3 := Aside0.mk A30
 clear A30
 replace H := Option.bind_eq_some_iff.mp H
 obtain ⟨t642, A40, H⟩ := H
 replace H : (if t642 = true then ((laws_markPartS.f k t639 1).bind fun bt643 => ((laws_heldPartS.f k bt643.2 1).bind fun t645 => (if t645 < 0 then (none) else (if t645 = bt643.1 then ((impl_StoreNew.f k a0).bind fun t646 => ((laws_eqPartS.f k t646 t636).bind fun t649 => (if t649 = true then ((laws_heldPartS.f k bt643.2 1).bind fun t650 => (if t650 < 0 then (none) else (if t650 = bt643.1 then (some true) else (none)))) else (none)))) else (none))))) else (none)) = some r := H
 have A4 := Aside0.mk A40
 clear A40
 by_cases c5 : t642 = true
 ·
  subst c5
  have H1 : ((laws_markPartS.f k t639 1).bind fun bt643 => ((laws_heldPartS.f k bt643.2 1).bind fun t645 => (if t645 < 0 then (none) else (if t645 = bt643.1 then ((impl_StoreNew.f k a0).bind fun t646 => ((laws_eqPartS.f k t646 t636).bind fun t649 => (if t649 = true then ((laws_heldPartS.f k bt643.2 1).bind fun t650 => (if t650 < 0 then (none) else (if t650 = bt643.1 then (some true) else (none)))) else (none)))) else (none))))) = some r := by rw [if_pos rfl] at H; exact H
  clear H
  have H := H1
  clear H1
  replace H := Option.bind_eq_some_iff.mp H
  obtain ⟨⟨t643, t644⟩, A60, H⟩ := H
  replace H : ((laws_heldPartS.f k t644 1).bind fun t645 => (if t645 < 0 then (none) else (if t645 = t643 then ((impl_StoreNew.f k a0).bind fun t646 => ((laws_eqPartS.f k t646 t636).bind fun t649 => (if t649 = true then ((laws_heldPartS.f k t644 1).bind fun t650 => (if t650 < 0 then (none) else (if t650 = t643 then (some true) else (none)))) else (none)))) else (none)))) = some r := H
  have A6 := Aside0.mk A60
  clear A60
  replace H := Option.bind_eq_some_iff.mp H
  obtain ⟨t645, A70, H⟩ := H
  replace H : (if t645 < 0 then (none) else (if t645 = t643 then ((impl_StoreNew.f k a0).bind fun t646 => ((laws_eqPartS.f k t646 t636).bind fun t649 => (if t649 = true then ((laws_heldPartS.f k t644 1).bind fun t650 => (if t650 < 0 then (none) else (if t650 = t643 then (some true) else (none)))) else (none)))) else (none))) = some r := H
  have A7 := Aside0.mk A70
  clear A70
  by_cases c8 : t645 < 0
  ·
   rw [if_pos c8] at H
   exact absurd H (by simp)
  ·
   rw [if_neg c8] at H
   have c8b0 : decide (t645 < 0) = false := decide_eq_false c8
   clear c8
   by_cases c9 : t645 = t643
   ·
    rw [if_pos c9] at H
    have c9b0 : (t645 == t643) = true := beq_iff_eq.mpr c9
    have c9b1 : (t645 != t643) = false := bne_eq_false_iff_eq.mpr c9
    clear c9
    replace H := Option.bind_eq_some_iff.mp H
    obtain ⟨t646, A100, H⟩ := H
    replace H : ((laws_eqPartS.f k t646 t636).bind fun t649 => (if t649 = true then ((laws_heldPartS.f k t644 1).bind fun t650 => (if t650 < 0 then (none) else (if t650 = t643 then (some true) else (none)))) else (none))) = some r := H
    have A10 := Aside0.mk A100
    clear A100
    replace H := Option.bind_eq_some_iff.mp H
    obtain ⟨t649, A110, H⟩ := H
    replace H : (if t649 = true then ((laws_heldPartS.f k t644 1).bind fun t650 => (if t650 < 0 then (none) else (if t650 = t643 then (some true) else (none)))) else (none)) = some r := H
    have A11 := Aside0.mk A110
    clear A110
    by_cases c12 : t649 = true
    ·
     subst c12
     have H1 : ((laws_heldPartS.f k t644 1).bind fun t650 => (if t650 < 0 then (none) else (if t650 = t643 then (some true) else (none)))) = some r := by rw [if_pos rfl] at H; exact H
     clear H
     have H := H1
     clear H1
     replace H := Option.bind_eq_some_iff.mp H
     obtain ⟨t650, A130, H⟩ := H
     replace H : (if t650 < 0 then (none) else (if t650 = t643 then (some true) else (none))) = some r := H
     have A13 := Aside0.mk A130
     clear A130
     by_cases c14 : t650 < 0
     ·
      rw [if_pos c14] at H
      exact absurd H (by simp)
     ·
      rw [if_neg c14] at H
      have c14b0 : decide (t650 < 0) = false := decide_eq_false c14
      clear c14
      by_cases c15 : t650 = t643
      ·
       rw [if_pos c15] at H
       have c15b0 : (t650 == t643) = true := beq_iff_eq.mpr c15
       have c15b1 : (t650 != t643) = false := bne_eq_false_iff_eq.mpr c15
       clear c15
       obtain rfl := Option.some.inj H
       go_enter Try.func9, Try.ntmps9
       go_wp2_with (first | ((with_reducible refine gate_callee (f := 42) rfl ?_); refine goesL_ (some 9) rfl rfl Try.func42 (by kernel_rfl) rfl #[.int .i64 a0] rfl (by (try simp only [List.map_toArray, List.map_cons, List.map_nil]); first | done | rfl | (simp only [List.length_drop, List.length_take]; rfl)) ?_; (with_reducible refine (spec_StoreNew.calls k a0 t636 _ A2.out).mono ?_); rintro e w16 ⟨v637, rfl, ho0, hb⟩; refine ⟨_, rfl, ?_⟩; obtain ⟨gbz637, hz637⟩ := Kd.S_name ho0; have n0_ := Aside0.mk (Kd.S_lower (Kd.S_gez hz637 ho0) (below_size (by repeat (first | (with_reducible first | exact HB.out | apply below_alloc | apply pw_below_drewN | apply below_drew1) | exact HB.out)))); have n1_ := Aside0.mk (below_step (by repeat (first | (with_reducible first | exact HB.out | apply below_alloc | apply pw_below_drewN | apply below_drew1) | exact HB.out)) hb); clear HB; have HO638 := n0_; have HB := n1_; clear n0_ n1_; (try clear hb); (try clear hb2); (try clear hk); (try clear hi); (try clear ho0)) | ((with_reducible refine gate_callee (f := 43) rfl ?_); refine goesL_ (some 11) rfl rfl Try.func43 (by kernel_rfl) rfl #[.int .i64 a0] rfl (by (try simp only [List.map_toArray, List.map_cons, List.map_nil]); first | done | rfl | (simp only [List.length_drop, List.length_take]; rfl)) ?_; (with_reducible refine (impl_StoreNew.calls k a0 t639 _ A3.out).mono ?_); rintro e w17 ⟨v640, rfl, ho0, hb⟩; refine ⟨_, rfl, ?_⟩; obtain ⟨gbz640, hz640⟩ := Kd.S_name ho0; have n0_ := Aside0.mk (Kd.S_below (Kd.S_ltz hz640 (by (with_reducible repeat (first | apply Kd.S_alloc | apply Kd.S_drewN | apply Kd.S_drew)); exact HO638.out)) hb); have n1_ := Aside0.mk (Kd.S_lower (Kd.S_gez hz640 ho0) (below_size (by repeat (first | (with_reducible first | exact HB.out | apply below_alloc | apply pw_below_drewN | apply below_drew1) | exact HB.out)))); have n2_ := Aside0.mk (below_step (by repeat (first | (with_reducible first | exact HB.out | apply below_alloc | apply pw_below_drewN | apply below_drew1) | exact HB.out)) hb); clear HO638; clear HB; have HO638 := n0_; have HO641 := n1_; have HB := n2_; clear n0_ n1_ n2_; (try clear hb); (try clear hb2); (try clear hk); (try clear hi); (try clear ho0); obtain ⟨Ao18, co18, eo18⟩ := Kd.S_slice HO641.out; subst eo18; obtain ⟨Ao19, co19, eo19⟩ := Kd.S_slice HO638.out; subst eo19) | ((with_reducible refine gate_callee (f := 44) rfl ?_); refine goesL_ (some 14) rfl rfl Try.func44 (by kernel_rfl) rfl #[.slice Ao18 t639.length co18, .slice Ao19 t636.length co19] rfl (by (try simp only [List.map_toArray, List.map_cons, List.map_nil]); first | done | rfl | (simp only [List.length_drop, List.length_take]; rfl)) ?_; (with_reducible refine (laws_eqPartS.calls k _ _ t639 _ _ t636 true _ ?side1 ?side2 ?side3 ?side4 A4.out).mono ?_); (case side1 => repeat (first | exact (Kd.S_reads' HO641.out).2.2 | (with_reducible refine Kd.C_alloc ?_ _) | (with_reducible refine Kd.C_drewN ?_ _) | (with_reducible refine Kd.C_drew ?_))); (case side2 => exact (Kd.S_reads' HO641.out).2.1); (case side3 => repeat (first | exact (Kd.S_reads' HO638.out).2.2 | (with_reducible refine Kd.C_alloc ?_ _) | (with_reducible refine Kd.C_drewN ?_ _) | (with_reducible refine Kd.C_drew ?_))); (case side4 => exact (Kd.S_reads' HO638.out).2.1); rintro e w20 ⟨rfl, hb⟩; refine ⟨_, rfl, ?_⟩; have n0_ := Aside0.mk (Kd.S_below (by (with_reducible repeat (first | apply Kd.S_alloc | apply Kd.S_drewN | apply Kd.S_drew)); exact HO638.out) hb); have n1_ := Aside0.mk (Kd.S_below (by (with_reducible repeat (first | apply Kd.S_alloc | apply Kd.S_drewN | apply Kd.S_drew)); exact HO641.out) hb); have n2_ := Aside0.mk (below_step (by repeat (first | (with_reducible first | exact HB.out | apply below_alloc | apply pw_below_drewN | apply below_drew1) | exact HB.out)) hb); clear HO638; clear HO641; clear HB; have HO638 := n0_; have HO641 := n1_; have HB := n2_; clear n0_ n1_ n2_; (try clear hb); (try clear hb2); (try clear hk); (try clear hi); obtain ⟨PXP21, hPXP21, hPlP21⟩ := Kd.S_fp HO641.out) | ((with_reducible refine gate_callee (f := 45) rfl ?_); refine goesL_ (some 18) rfl rfl Try.func45 (by kernel_rfl) rfl #[.slice Ao18 t639.length co18, .int .i64 1] rfl (by (try simp only [List.map_toArray, List.map_cons, List.map_nil]); first | done | rfl | (simp only [List.length_drop, List.length_take]; rfl)) ?_; (with_reducible refine (laws_markPartS.calls k PXP21 (.slice Ao18 t639.length co18) t639 1 t643 t644 w _ ?side1 ?side2 A6.out).mono ?_); (case side1 => repeat (first | (with_reducible first | exact HB.out | apply below_alloc | apply pw_below_drewN | apply below_drew1) | exact HB.out)); (case side2 => exact hPXP21); rintro e w22 ⟨rfl, hy0, hb, hkp⟩; refine ⟨_, rfl, ?_⟩; have n0_ := Aside0.mk (Kd.S_mono (ok' := fun k_ => gbz637 ≤ k_ ∧ k_ < gbz640) (Kd.S_keptB (HO638.out) hkp (fun k_ hk_ hs_ => (fun e_ => Nat.lt_irrefl _ (Nat.lt_of_lt_of_le hk_.2 (hPlP21 _ e_).1.2)) hs_)) (fun k_ hk_ => ⟨hk_.1.1.2, hk_.1.2⟩)); have n1_ := Aside0.mk (Kd.S_mono hy0 (fun k_ hk_ => (hPlP21 k_ hk_).1)); have n2_ := Aside0.mk (hb); clear HO638; clear HO641; clear HB; have HO638 := n0_; have HO641 := n1_; have HB := n2_; clear n0_ n1_ n2_; (try clear hb); (try clear hkp); (try clear hy0)) | ((with_reducible refine gate_callee (f := 46) rfl ?_); refine goesL_ (some 21) rfl rfl Try.func46 (by kernel_rfl) rfl #[.slice Ao18 t644.length co18, .int .i64 1] rfl (by (try simp only [List.map_toArray, List.map_cons, List.map_nil]); first | done | (rw [show t644.length = t639.length from (Kd.S_reads' HO641.out).1.symm] <;> rfl) | rfl | (simp only [List.length_drop, List.length_take]; rfl)) ?_; (with_reducible refine (laws_heldPartS.calls k _ _ t644 1 t645 _ ?side1 ?side2 A7.out).mono ?_); (case side1 => repeat (first | exact (Kd.S_reads' HO641.out).2.2 | (with_reducible refine Kd.C_alloc ?_ _) | (with_reducible refine Kd.C_drewN ?_ _) | (with_reducible refine Kd.C_drew ?_))); (case side2 => rw [show t644.length = t639.length from (Kd.S_reads' HO641.out).1.symm]; exact (Kd.S_reads' HO641.out).2.1); rintro e w23 ⟨rfl, hb⟩; refine ⟨_, rfl, ?_⟩; have n0_ := Aside0.mk (Kd.S_below (by (with_reducible repeat (first | apply Kd.S_alloc | apply Kd.S_drewN | apply Kd.S_drew)); exact HO638.out) hb); have n1_ := Aside0.mk (Kd.S_below (by (with_reducible repeat (first | apply Kd.S_alloc | apply Kd.S_drewN | apply Kd.S_drew)); exact HO641.out) hb); have n2_ := Aside0.mk (below_step (by repeat (first | (with_reducible first | exact HB.out | apply below_alloc | apply pw_below_drewN | apply below_drew1) | exact HB.out)) hb); clear HO638; clear HO641; clear HB; have HO638 := n0_; have HO641 := n1_; have HB := n2_; clear n0_ n1_ n2_; (try clear hb); (try clear hb2); (try clear hk); (try clear hi)) | ((with_reducible refine gate_callee (f := 43) rfl ?_); refine goesL_ (some 28) rfl rfl Try.func43 (by kernel_rfl) rfl #[.int .i64 a0] rfl (by (try simp only [List.map_toArray, List.map_cons, List.map_nil]); first | done | rfl | (simp only [List.length_drop, List.length_take]; rfl)) ?_; (with_reducible refine (impl_StoreNew.calls k a0 t646 _ A10.out).mono ?_); rintro e w24 ⟨v647, rfl, ho0, hb⟩; refine ⟨_, rfl, ?_⟩; obtain ⟨gbz647, hz647⟩ := Kd.S_name ho0; have n0_ := Aside0.mk (Kd.S_below (Kd.S_ltz hz647 (by (with_reducible repeat (first | apply Kd.S_alloc | apply Kd.S_drewN | apply Kd.S_drew)); exact HO638.out)) hb); have n1_ := Aside0.mk (Kd.S_below (Kd.S_ltz hz647 (by (with_reducible repeat (first | apply Kd.S_alloc | apply Kd.S_drewN | apply Kd.S_drew)); exact HO641.out)) hb); have n2_ := Aside0.mk (Kd.S_lower (Kd.S_gez hz647 ho0) (below_size (by repeat (first | (with_reducible first | exact HB.out | apply below_alloc | apply pw_below_drewN | apply below_drew1) | exact HB.out)))); have n3_ := Aside0.mk (below_step (by repeat (first | (with_reducible first | exact HB.out | apply below_alloc | apply pw_below_drewN | apply below_drew1) | exact HB.out)) hb); clear HO638; clear HO641; clear HB; have HO638 := n0_; have HO641 := n1_; have HO648 := n2_; have HB := n3_; clear n0_ n1_ n2_ n3_; (try clear hb); (try clear hb2); (try clear hk); (try clear hi); (try clear ho0); obtain ⟨Ao25, co25, eo25⟩ := Kd.S_slice HO648.out; subst eo25) | ((with_reducible refine gate_callee (f := 44) rfl ?_); refine goesL_ (some 31) rfl rfl Try.func44 (by kernel_rfl) rfl #[.slice Ao25 t646.length co25, .slice Ao19 t636.length co19] rfl (by (try simp only [List.map_toArray, List.map_cons, List.map_nil]); first | done | rfl | (simp only [List.length_drop, List.length_take]; rfl)) ?_; (with_reducible refine (laws_eqPartS.calls k _ _ t646 _ _ t636 true _ ?side1 ?side2 ?side3 ?side4 A11.out).mono ?_); (case side1 => repeat (first | exact (Kd.S_reads' HO648.out).2.2 | (with_reducible refine Kd.C_alloc ?_ _) | (with_reducible refine Kd.C_drewN ?_ _) | (with_reducible refine Kd.C_drew ?_))); (case side2 => exact (Kd.S_reads' HO648.out).2.1); (case side3 => repeat (first | exact (Kd.S_reads' HO638.out).2.2 | (with_reducible refine Kd.C_alloc ?_ _) | (with_reducible refine Kd.C_drewN ?_ _) | (with_reducible refine Kd.C_drew ?_))); (case side4 => exact (Kd.S_reads' HO638.out).2.1); rintro e w26 ⟨rfl, hb⟩; refine ⟨_, rfl, ?_⟩; have n0_ := Aside0.mk (Kd.S_below (by (with_reducible repeat (first | apply Kd.S_alloc | apply Kd.S_drewN | apply Kd.S_drew)); exact HO638.out) hb); have n1_ := Aside0.mk (Kd.S_below (by (with_reducible repeat (first | apply Kd.S_alloc | apply Kd.S_drewN | apply Kd.S_drew)); exact HO641.out) hb); have n2_ := Aside0.mk (Kd.S_below (by (with_reducible repeat (first | apply Kd.S_alloc | apply Kd.S_drewN | apply Kd.S_drew)); exact HO648.out) hb); have n3_ := Aside0.mk (below_step (by repeat (first | (with_reducible first | exact HB.out | apply below_alloc | apply pw_below_drewN | apply below_drew1) | exact HB.out)) hb); clear HO638; clear HO641; clear HO648; clear HB; have HO638 := n0_; have HO641 := n1_; have HO648 := n2_; have HB := n3_; clear n0_ n1_ n2_ n3_; (try clear hb); (try clear hb2); (try clear hk); (try clear hi)) | ((with_reducible refine gate_callee (f := 46) rfl ?_); refine goesL_ (some 35) rfl rfl Try.func46 (by kernel_rfl) rfl #[.slice Ao18 t644.length co18, .int .i64 1] rfl (by (try simp only [List.map_toArray, List.map_cons, List.map_nil]); first | done | (rw [show t644.length = t639.length from (Kd.S_reads' HO641.out).1.symm] <;> rfl) | rfl | (simp only [List.length_drop, List.length_take]; rfl)) ?_; (with_reducible refine (laws_heldPartS.calls k _ _ t644 1 t650 _ ?side1 ?side2 A13.out).mono ?_); (case side1 => repeat (first | exact (Kd.S_reads' HO641.out).2.2 | (with_reducible refine Kd.C_alloc ?_ _) | (with_reducible refine Kd.C_drewN ?_ _) | (with_reducible refine Kd.C_drew ?_))); (case side2 => rw [show t644.length = t639.length from (Kd.S_reads' HO641.out).1.symm]; exact (Kd.S_reads' HO641.out).2.1); rintro e w27 ⟨rfl, hb⟩; refine ⟨_, rfl, ?_⟩; have n0_ := Aside0.mk (Kd.S_below (by (with_reducible repeat (first | apply Kd.S_alloc | apply Kd.S_drewN | apply Kd.S_drew)); exact HO641.out) hb); have n1_ := Aside0.mk (below_step (by repeat (first | (with_reducible first | exact HB.out | apply below_alloc | apply pw_below_drewN | apply below_drew1) | exact HB.out)) hb); clear HO641; clear HB; have HO641 := n0_; have HB := n1_; clear n0_ n1_; (try clear hb); (try clear hb2); (try clear hk); (try clear hi)))
       go_ret
       exact ⟨by first | rfl | (simp [errW_none, errW_some] <;> rfl) | (simp [*, errW_none, errW_some] <;> rfl), by repeat (first | (with_reducible first | exact HB.out | apply below_alloc | apply pw_below_drewN | apply below_drew1) | exact HB.out)⟩
      ·
       rw [if_neg c15] at H
       exact absurd H (by simp)
    ·
     replace c12 := Bool.eq_false_iff.mpr c12
     subst c12
     have H1 : (none) = some r := by rw [if_neg (show ¬ (false = true) by decide)] at H; exact H
     clear H
     have H := H1
     clear H1
     exact absurd H (by simp)
   ·
    rw [if_neg c9] at H
    exact absurd H (by simp)
 ·
  replace c5 := Bool.eq_false_iff.mpr c5
  subst c5
  have H1 : (none) = some r := by rw [if_neg (show ¬ (false = true) by decide)] at H; exact H
  clear H
  have H := H1
  clear H1
  exact absurd H (by simp)

/-- THE ONE PURE STATEMENT of laws_FnExactStoreNew: yours. -/
def laws_FnExactStoreNew.Pure : Prop := ∀ (a0 : Int), (Lit.int .i64 a0).wf = true → ∃ k, laws_FnExactStoreNew.f k a0 = some true
theorem laws_FnExactStoreNew.walk (P : laws_FnExactStoreNew.Pure) (a0 : Int) (w : World) (w0 : (Lit.int .i64 a0).wf = true) :
  Calls Try.prog 9 #[.int .i64 a0] w fun e w' => e = .returned (.bool true) ∧ Below w.heap.size w w' := by
 obtain ⟨k, h⟩ := P a0 w0
 refine (laws_FnExactStoreNew.calls k a0 true w h).mono ?_
 rintro e w' ⟨rfl, hd⟩
 exact ⟨rfl, hd⟩

end Go.Proofs.Ytmmaondenopnpaa.Print
