-- Written by printx.py, a program of this session (wip/gen), over the kit's print.py.
import Derived.Test.YtkjakmbmnbjpbaaF0
import Derived.Test.YtkjakmbmnbjpbaaF6
import Derived.Test.YtkjakmbmnbjpbaaF8
import Derived.Test.YtkjakmbmnbjpbaaF11
import Derived.Test.YtkjakmbmnbjpbaaF16
import Derived.Test.YtkjakmbmnbjpbaaF17
import Derived.Test.YtkjakmbmnbjpbaaF30
import Derived.Test.YtkjakmbmnbjpbaaF31
namespace Go.Proofs.Ytkjakmbmnbjpbaa.Print
open Go.RowKit Go.Proofs.YtkjakmbmnbjpbaaV.PrintWords Go.Proofs.YtkjakmbmnbjpbaaV.PrintLast Go.Proofs.YtkjakmbmnbjpbaaV.PrintMore
attribute [local go_sem] max2_int min2_int max_two min_two max_three min_three max_four min_four   -- for this text's walks alone
set_option linter.unusedVariables false
set_option linter.unusedSimpArgs false

/-! ### laws_FnExactHeapDrop: function 7 -/
def laws_FnExactHeapDrop.j0 : Nat → List (S23) → Int → List (S25) → List (S25) → Bool → Option (Bool)
 | 0, _, _, _, _, _ => none
 | k + 1, x0, x1, x6, x8, x46 => if x46 = true then (none) else ((laws_markTimerS.f k x8 1).bind fun bt359 => ((laws_heldTimerS.f k bt359.2 1).bind fun t361 => (if t361 < 0 then (none) else (if t361 = bt359.1 then ((laws_toTimerS.f k x0).bind fun t362 => ((impl_HeapDrop.f k t362 x1).bind fun t365 => ((laws_eqTimerS.f k t365 x6).bind fun t368 => (if t368 = true then ((laws_heldTimerS.f k bt359.2 1).bind fun t369 => (if t369 < 0 then (none) else (if t369 = bt359.1 then (some true) else (none)))) else (none))))) else (none)))))
def laws_FnExactHeapDrop.f (k : Nat) (l0 : List (S23)) (a1 : Int) : Option (Bool) := (laws_szTimerS.f l0 1048576).bind fun t338 => (if t338 < 0 then (some true) else ((laws_toTimerS.f k l0).bind fun t339 => ((spec_HeapDrop.f k t339 a1).bind fun t342 => ((laws_toTimerS.f k l0).bind fun t345 => ((impl_HeapDrop.f k t345 a1).bind fun t348 => ((laws_eqTimerS.f k t348 t342).bind fun t351 => (if t351 = true then ((laws_toTimerS.f k l0).bind fun t352 => ((laws_eqTimerS.f k t345 t352).bind fun t355 => (if t355 = true then ((laws_markTimerS.f k t345 1).bind fun bt356 => (if bt356.1 < 0 then (laws_FnExactHeapDrop.j0 k l0 a1 t342 t348 true) else ((laws_eqTimerS.f k t348 t342).bind fun t358 => (laws_FnExactHeapDrop.j0 k l0 a1 t342 t348 (!t358))))) else (none)))) else (none))))))))
theorem laws_FnExactHeapDrop.mono_l : ∀ k, (∀ y0 y1 y2 y3 y4, LeO (laws_FnExactHeapDrop.j0 k y0 y1 y2 y3 y4) (laws_FnExactHeapDrop.j0 (k + 1) y0 y1 y2 y3 y4))
 | 0 => fun _ _ _ _ _ r h => by simp [laws_FnExactHeapDrop.j0] at h
 | k + 1 => by
  have ih0 := laws_FnExactHeapDrop.mono_l k
  ·
   intro y0 y1 y2 y3 y4
   unfold laws_FnExactHeapDrop.j0
   repeat' first
   | (with_reducible exact ih0 _ _ _ _ _)
   | (with_reducible exact impl_HeapDrop.mono _ _ _)
   | (with_reducible exact laws_eqTimerS.mono _ _ _)
   | (with_reducible exact laws_heldTimerS.mono _ _ _)
   | (with_reducible exact laws_markTimerS.mono _ _ _)
   | (with_reducible exact laws_toTimerS.mono _ _)
   | (with_reducible exact spec_HeapDrop.mono _ _ _)
   | (with_reducible exact LeO.refl _)
   | (with_reducible exact LeO.none _)
   | (with_reducible refine LeO.ite ?_ ?_)
   | (with_reducible refine LeO.bind ?_ (fun _ => ?_))
   | exact ih0 _ _ _ _ _
   | exact impl_HeapDrop.mono _ _ _
   | exact laws_eqTimerS.mono _ _ _
   | exact laws_heldTimerS.mono _ _ _
   | exact laws_markTimerS.mono _ _ _
   | exact laws_toTimerS.mono _ _
   | exact spec_HeapDrop.mono _ _ _
   | exact LeO.none _
   | refine LeO.ite ?_ ?_
   | refine LeO.bind ?_ (fun _ => ?_)
theorem laws_FnExactHeapDrop.mono : ∀ a0 a1 k, LeO (laws_FnExactHeapDrop.f k a0 a1) (laws_FnExactHeapDrop.f (k + 1) a0 a1) := by
 intro a0 a1 k
 have ih0 := laws_FnExactHeapDrop.mono_l k
 unfold laws_FnExactHeapDrop.f
 repeat' first
   | (with_reducible exact ih0 _ _ _ _ _)
   | (with_reducible exact impl_HeapDrop.mono _ _ _)
   | (with_reducible exact laws_eqTimerS.mono _ _ _)
   | (with_reducible exact laws_heldTimerS.mono _ _ _)
   | (with_reducible exact laws_markTimerS.mono _ _ _)
   | (with_reducible exact laws_toTimerS.mono _ _)
   | (with_reducible exact spec_HeapDrop.mono _ _ _)
   | (with_reducible exact LeO.refl _)
   | (with_reducible exact LeO.none _)
   | (with_reducible refine LeO.ite ?_ ?_)
   | (with_reducible refine LeO.bind ?_ (fun _ => ?_))
   | exact ih0 _ _ _ _ _
   | exact impl_HeapDrop.mono _ _ _
   | exact laws_eqTimerS.mono _ _ _
   | exact laws_heldTimerS.mono _ _ _
   | exact laws_markTimerS.mono _ _ _
   | exact laws_toTimerS.mono _ _
   | exact spec_HeapDrop.mono _ _ _
   | exact LeO.none _
   | refine LeO.ite ?_ ?_
   | refine LeO.bind ?_ (fun _ => ?_)
set_option maxHeartbeats 8000000 in
set_option maxRecDepth 100000 in
theorem laws_FnExactHeapDrop.calls (k : Nat) (A0 : Option Addr) (c0 : Nat) (l0 : List (S23)) (a1 : Int) (r : Bool) (w : World) (hr0 : Kd.C k23 w A0 l0.length l0) (hc0 : l0.length ≤ c0) (h : laws_FnExactHeapDrop.f k l0 a1 = some r) :
  Calls Try.prog 7 #[.slice A0 l0.length c0, .int .i64 a1] w fun e w' => e = .returned (.bool r) ∧ Below w.heap.size w w' := by
 have HR0 := Aside0.mk hr0
 have HC0 := Aside0.mk hc0
 clear hr0 hc0
 have HB := Aside0.mk (Below.refl w.heap.size w)
 have H : ((laws_szTimerS.f l0 1048576).bind fun t338 => (if t338 < 0 then (some true) else ((laws_toTimerS.f k l0).bind fun t339 => ((spec_HeapDrop.f k t339 a1).bind fun t342 => ((laws_toTimerS.f k l0).bind fun t345 => ((impl_HeapDrop.f k t345 a1).bind fun t348 => ((laws_eqTimerS.f k t348 t342).bind fun t351 => (if t351 = true then ((laws_toTimerS.f k l0).bind fun t352 => ((laws_eqTimerS.f k t345 t352).bind fun t355 => (if t355 = true then ((laws_markTimerS.f k t345 1).bind fun bt356 => (if bt356.1 < 0 then (laws_FnExactHeapDrop.j0 k l0 a1 t342 t348 true) else ((laws_eqTimerS.f k t348 t342).bind fun t358 => (laws_FnExactHeapDrop.j0 k l0 a1 t342 t348 (!t358))))) else (none)))) else (none))))))))) = some r := h
 clear h
 replace H := Option.bind_eq_some_iff.mp H
 obtain ⟨t338, A30, H⟩ := H
 replace H : (if t338 < 0 then (some true) else ((laws_toTimerS.f k l0).bind fun t339 => ((spec_HeapDrop.f k t339 a1).bind fun t342 => ((laws_toTimerS.f k l0).bind fun t345 => ((impl_HeapDrop.f k t345 a1).bind fun t348 => ((laws_eqTimerS.f k t348 t342).bind fun t351 => (if t351 = true then ((laws_toTimerS.f k l0).bind fun t352 => ((laws_eqTimerS.f k t345 t352).bind fun t355 => (if t355 = true then ((laws_markTimerS.f k t345 1).bind fun bt356 => (if bt356.1 < 0 then (laws_FnExactHeapDrop.j0 k l0 a1 t342 t348 true) else ((laws_eqTimerS.f k t348 t342).bind fun t358 => (laws_FnExactHeapDrop.j0 k l0 a1 t342 t348 (!t358))))) else (none)))) else (none)))))))) = some r := H
 have A3 := Aside0.mk A30
 clear A30
 by_cases c4 : t338 < 0
 ·
  rw [if_pos c4] at H
  have c4b0 : decide (t338 < 0) = true := decide_eq_true c4
  clear c4
  obtain rfl := Option.some.inj H
  go_enter Try.func7, Try.ntmps7
  go_wp2_with (first | ((with_reducible refine gate_callee (f := 17) rfl ?_); refine goesL_ (some 15) rfl rfl Try.func17 (by kernel_rfl) rfl #[.slice A0 l0.length c0, .int .i64 1048576] rfl (by (try simp only [List.map_toArray, List.map_cons, List.map_nil]); first | done | rfl | (simp only [List.length_drop, List.length_take]; rfl)) ?_; (with_reducible refine (laws_szTimerS.calls _ _ l0 1048576 t338 _ ?side1 ?side2 A3.out).mono ?_); (case side1 => repeat (first | exact HR0.out | (with_reducible refine Kd.C_alloc ?_ _) | (with_reducible refine Kd.C_drewN ?_ _) | (with_reducible refine Kd.C_drew ?_))); (case side2 => exact HC0.out); rintro e w' ⟨rfl, ⟨nd, rfl⟩⟩; refine ⟨_, rfl, ?_⟩))
  go_ret
  exact ⟨by first | rfl | (simp [errW_none, errW_some] <;> rfl) | (simp [*, errW_none, errW_some] <;> rfl), by repeat (first | (with_reducible first | exact HB.out | apply below_alloc | apply pw_below_drewN | apply below_drew1) | exact HB.out)⟩
 ·
  rw [if_neg c4] at H
  have c4b0 : decide (t338 < 0) = false := decide_eq_false c4
  clear c4
  replace H := Option.bind_eq_some_iff.mp H
  obtain ⟨t339, A50, H⟩ := H
  replace H : ((spec_HeapDrop.f k t339 a1).bind fun t342 => ((laws_toTimerS.f k l0).bind fun t345 => ((impl_HeapDrop.f k t345 a1).bind fun t348 => ((laws_eqTimerS.f k t348 t342).bind fun t351 => (if t351 = true then ((laws_toTimerS.f k l0).bind fun t352 => ((laws_eqTimerS.f k t345 t352).bind fun t355 => (if t355 = true then ((laws_markTimerS.f k t345 1).bind fun bt356 => (if bt356.1 < 0 then (laws_FnExactHeapDrop.j0 k l0 a1 t342 t348 true) else ((laws_eqTimerS.f k t348 t342).bind fun t358 => (laws_FnExactHeapDrop.j0 k l0 a1 t342 t348 (!t358))))) else (none)))) else (none)))))) = some r := H
  have A5 := Aside0.mk A50
  clear A50
  replace H := Option.bind_eq_some_iff.mp H
  obtain ⟨t342, A60, H⟩ := H
  replace H : ((laws_toTimerS.f k l0).bind fun t345 => ((impl_HeapDrop.f k t345 a1).bind fun t348 => ((laws_eqTimerS.f k t348 t342).bind fun t351 => (if t351 = true then ((laws_toTimerS.f k l0).bind fun t352 => ((laws_eqTimerS.f k t345 t352).bind fun t355 => (if t355 = true then ((laws_markTimerS.f k t345 1).bind fun bt356 => (if bt356.1 < 0 then (laws_FnExactHeapDrop.j0 k l0 a1 t342 t348 true) else ((laws_eqTimerS.f k t348 t342).bind fun t358 => (laws_FnExactHeapDrop.j0 k l0 a1 t342 t348 (!t358))))) else (none)))) else (none))))) = some r := H
  have A6 := Aside0.mk A60
  clear A60
  replace H := Option.bind_eq_some_iff.mp H
  obtain ⟨t345, A70, H⟩ := H
  replace H : ((impl_HeapDrop.f k t345 a1).bind fun t348 => ((laws_eqTimerS.f k t348 t342).bind fun t351 => (if t351 = true then ((laws_toTimerS.f k l0).bind fun t352 => ((laws_eqTimerS.f k t345 t352).bind fun t355 => (if t355 = true then ((laws_markTimerS.f k t345 1).bind fun bt356 => (if bt356.1 < 0 then (laws_FnExactHeapDrop.j0 k l0 a1 t342 t348 true) else ((laws_eqTimerS.f k t348 t342).bind fun t358 => (laws_FnExactHeapDrop.j0 k l0 a1 t342 t348 (!t358))))) else (none)))) else (none)))) = some r := H
  have A7 := Aside0.mk A70
  clear A70
  replace H := Option.bind_eq_some_iff.mp H
  obtain ⟨t348, A80, H⟩ := H
  replace H : ((laws_eqTimerS.f k t348 t342).bind fun t351 => (if t351 = true then ((laws_toTimerS.f k l0).bind fun t352 => ((laws_eqTimerS.f k t345 t352).bind fun t355 => (if t355 = true then ((laws_markTimerS.f k t345 1).bind fun bt356 => (if bt356.1 < 0 then (laws_FnExactHeapDrop.j0 k l0 a1 t342 t348 true) else ((laws_eqTimerS.f k t348 t342).bind fun t358 => (laws_FnExactHeapDrop.j0 k l0 a1 t342 t348 (!t358))))) else (none)))) else (none))) = some r := H
  have A8 := Aside0.mk A80
  clear A80
  replace H := Option.bind_eq_some_iff.mp H
  obtain ⟨t351, A90, H⟩ := H
  replace H : (if t351 = true then ((laws_toTimerS.f k l0).bind fun t352 => ((laws_eqTimerS.f k t345 t352).bind fun t355 => (if t355 = true then ((laws_markTimerS.f k t345 1).bind fun bt356 => (if bt356.1 < 0 then (laws_FnExactHeapDrop.j0 k l0 a1 t342 t348 true) else ((laws_eqTimerS.f k t348 t342).bind fun t358 => (laws_FnExactHeapDrop.j0 k l0 a1 t342 t348 (!t358))))) else (none)))) else (none)) = some r := H
  have A9 := Aside0.mk A90
  clear A90
  by_cases c10 : t351 = true
  ·
   subst c10
   have H1 : ((laws_toTimerS.f k l0).bind fun t352 => ((laws_eqTimerS.f k t345 t352).bind fun t355 => (if t355 = true then ((laws_markTimerS.f k t345 1).bind fun bt356 => (if bt356.1 < 0 then (laws_FnExactHeapDrop.j0 k l0 a1 t342 t348 true) else ((laws_eqTimerS.f k t348 t342).bind fun t358 => (laws_FnExactHeapDrop.j0 k l0 a1 t342 t348 (!t358))))) else (none)))) = some r := by rw [if_pos rfl] at H; exact H
   clear H
   have H := H1
   clear H1
   replace H := Option.bind_eq_some_iff.mp H
   obtain ⟨t352, A110, H⟩ := H
   replace H : ((laws_eqTimerS.f k t345 t352).bind fun t355 => (if t355 = true then ((laws_markTimerS.f k t345 1).bind fun bt356 => (if bt356.1 < 0 then (laws_FnExactHeapDrop.j0 k l0 a1 t342 t348 true) else ((laws_eqTimerS.f k t348 t342).bind fun t358 => (laws_FnExactHeapDrop.j0 k l0 a1 t342 t348 (!t358))))) else (none))) = some r := H
   have A11 := Aside0.mk A110
   clear A110
   replace H := Option.bind_eq_some_iff.mp H
   obtain ⟨t355, A120, H⟩ := H
   replace H : (if t355 = true then ((laws_markTimerS.f k t345 1).bind fun bt356 => (if bt356.1 < 0 then (laws_FnExactHeapDrop.j0 k l0 a1 t342 t348 true) else ((laws_eqTimerS.f k t348 t342).bind fun t358 => (laws_FnExactHeapDrop.j0 k l0 a1 t342 t348 (!t358))))) else (none)) = some r := H
   have A12 := Aside0.mk A120
   clear A120
   by_cases c13 : t355 = true
   ·
    subst c13
    have H1 : ((laws_markTimerS.f k t345 1).bind fun bt356 => (if bt356.1 < 0 then (laws_FnExactHeapDrop.j0 k l0 a1 t342 t348 true) else ((laws_eqTimerS.f k t348 t342).bind fun t358 => (laws_FnExactHeapDrop.j0 k l0 a1 t342 t348 (!t358))))) = some r := by rw [if_pos rfl] at H; exact H
    clear H
    have H := H1
    clear H1
    replace H := Option.bind_eq_some_iff.mp H
    obtain ⟨⟨t356, t357⟩, A140, H⟩ := H
    replace H : (if t356 < 0 then (laws_FnExactHeapDrop.j0 k l0 a1 t342 t348 true) else ((laws_eqTimerS.f k t348 t342).bind fun t358 => (laws_FnExactHeapDrop.j0 k l0 a1 t342 t348 (!t358)))) = some r := H
    have A14 := Aside0.mk A140
    clear A140
    have HC15 := Aside0.mk H
    clear H
    go_enter Try.func7, Try.ntmps7
    go_upto_region 14 with (first | ((with_reducible refine gate_callee (f := 17) rfl ?_); refine goesL_ (some 15) rfl rfl Try.func17 (by kernel_rfl) rfl #[.slice A0 l0.length c0, .int .i64 1048576] rfl (by (try simp only [List.map_toArray, List.map_cons, List.map_nil]); first | done | rfl | (simp only [List.length_drop, List.length_take]; rfl)) ?_; (with_reducible refine (laws_szTimerS.calls _ _ l0 1048576 t338 _ ?side1 ?side2 A3.out).mono ?_); (case side1 => repeat (first | exact HR0.out | (with_reducible refine Kd.C_alloc ?_ _) | (with_reducible refine Kd.C_drewN ?_ _) | (with_reducible refine Kd.C_drew ?_))); (case side2 => exact HC0.out); rintro e w' ⟨rfl, ⟨nd, rfl⟩⟩; refine ⟨_, rfl, ?_⟩) | ((with_reducible refine gate_callee (f := 19) rfl ?_); refine goesL_ (some 19) rfl rfl Try.func19 (by kernel_rfl) rfl #[.slice A0 l0.length c0] rfl (by (try simp only [List.map_toArray, List.map_cons, List.map_nil]); first | done | rfl | (simp only [List.length_drop, List.length_take]; rfl)) ?_; (with_reducible refine (laws_toTimerS.calls k _ _ l0 t339 _ ?side1 ?side2 A5.out).mono ?_); (case side1 => repeat (first | exact HR0.out | (with_reducible refine Kd.C_alloc ?_ _) | (with_reducible refine Kd.C_drewN ?_ _) | (with_reducible refine Kd.C_drew ?_))); (case side2 => exact HC0.out); rintro e w16 ⟨v340, rfl, ho0, hb⟩; refine ⟨_, rfl, ?_⟩; have n0_ := Aside0.mk (Kd.R_lower ho0 (below_size (by repeat (first | (with_reducible first | exact HB.out | apply below_alloc | apply pw_below_drewN | apply below_drew1) | exact HB.out)))); have n1_ := Aside0.mk (below_step (by repeat (first | (with_reducible first | exact HB.out | apply below_alloc | apply pw_below_drewN | apply below_drew1) | exact HB.out)) hb); clear HB; have HO341 := n0_; have HB := n1_; clear n0_ n1_; (try clear hb); (try clear hb2); (try clear hk); (try clear hi); (try clear ho0); obtain ⟨Ao17, co17, eo17⟩ := Kd.R_slice HO341.out; subst eo17) | ((with_reducible refine gate_callee (f := 31) rfl ?_); refine goesL_ (some 21) rfl rfl Try.func31 (by kernel_rfl) rfl #[.slice Ao17 t339.length co17, .int .i64 a1] rfl (by (try simp only [List.map_toArray, List.map_cons, List.map_nil]); first | done | rfl | (simp only [List.length_drop, List.length_take]; rfl)) ?_; (with_reducible refine (spec_HeapDrop.calls k _ _ t339 a1 t342 _ ?side1 ?side2 A6.out).mono ?_); (case side1 => repeat (first | exact (Kd.R_reads' HO341.out).2.2 | (with_reducible refine Kd.C_alloc ?_ _) | (with_reducible refine Kd.C_drewN ?_ _) | (with_reducible refine Kd.C_drew ?_))); (case side2 => exact (Kd.R_reads' HO341.out).2.1); rintro e w18 ⟨v343, rfl, ho0, hb⟩; refine ⟨_, rfl, ?_⟩; have n0_ := Aside0.mk (Kd.R_elder' (by (with_reducible repeat (first | apply Kd.R_alloc | apply Kd.R_drewN | apply Kd.R_drew)); exact HO341.out) (Kd.R_base ho0) hb); have n1_ := Aside0.mk (Kd.R_lower (Kd.R_new' ho0 (Kd.R_lt (by (with_reducible repeat (first | apply Kd.R_alloc | apply Kd.R_drewN | apply Kd.R_drew)); exact HO341.out))) (below_size (by repeat (first | (with_reducible first | exact HB.out | apply below_alloc | apply pw_below_drewN | apply below_drew1) | exact HB.out)))); have n2_ := Aside0.mk (below_step (by repeat (first | (with_reducible first | exact HB.out | apply below_alloc | apply pw_below_drewN | apply below_drew1) | exact HB.out)) hb); clear HO341; clear HB; have HO341 := n0_; have HO344 := n1_; have HB := n2_; clear n0_ n1_ n2_; (try clear hb); (try clear hb2); (try clear hk); (try clear hi); (try clear ho0)) | ((with_reducible refine gate_callee (f := 19) rfl ?_); refine goesL_ (some 23) rfl rfl Try.func19 (by kernel_rfl) rfl #[.slice A0 l0.length c0] rfl (by (try simp only [List.map_toArray, List.map_cons, List.map_nil]); first | done | rfl | (simp only [List.length_drop, List.length_take]; rfl)) ?_; (with_reducible refine (laws_toTimerS.calls k _ _ l0 t345 _ ?side1 ?side2 A7.out).mono ?_); (case side1 => repeat (first | exact (Kd.C_below HR0.out HB.out) | (with_reducible refine Kd.C_alloc ?_ _) | (with_reducible refine Kd.C_drewN ?_ _) | (with_reducible refine Kd.C_drew ?_))); (case side2 => exact HC0.out); rintro e w19 ⟨v346, rfl, ho0, hb⟩; refine ⟨_, rfl, ?_⟩; have n0_ := Aside0.mk (Kd.R_elder' (by (with_reducible repeat (first | apply Kd.R_alloc | apply Kd.R_drewN | apply Kd.R_drew)); exact HO341.out) (Kd.R_base ho0) hb); have n1_ := Aside0.mk (Kd.R_elder' (by (with_reducible repeat (first | apply Kd.R_alloc | apply Kd.R_drewN | apply Kd.R_drew)); exact HO344.out) (Kd.R_base ho0) hb); have n2_ := Aside0.mk (Kd.R_lower (Kd.R_new' (Kd.R_new' ho0 (Kd.R_lt (by (with_reducible repeat (first | apply Kd.R_alloc | apply Kd.R_drewN | apply Kd.R_drew)); exact HO341.out))) (Kd.R_lt (by (with_reducible repeat (first | apply Kd.R_alloc | apply Kd.R_drewN | apply Kd.R_drew)); exact HO344.out))) (below_size (by repeat (first | (with_reducible first | exact HB.out | apply below_alloc | apply pw_below_drewN | apply below_drew1) | exact HB.out)))); have n3_ := Aside0.mk (below_step (by repeat (first | (with_reducible first | exact HB.out | apply below_alloc | apply pw_below_drewN | apply below_drew1) | exact HB.out)) hb); clear HO341; clear HO344; clear HB; have HO341 := n0_; have HO344 := n1_; have HO347 := n2_; have HB := n3_; clear n0_ n1_ n2_ n3_; (try clear hb); (try clear hb2); (try clear hk); (try clear hi); (try clear ho0); obtain ⟨Ao20, co20, eo20⟩ := Kd.R_slice HO347.out; subst eo20) | ((with_reducible refine gate_callee (f := 32) rfl ?_); refine goesL_ (some 26) rfl rfl Try.func32 (by kernel_rfl) rfl #[.slice Ao20 t345.length co20, .int .i64 a1] rfl (by (try simp only [List.map_toArray, List.map_cons, List.map_nil]); first | done | rfl | (simp only [List.length_drop, List.length_take]; rfl)) ?_; (with_reducible refine (impl_HeapDrop.calls k _ _ t345 a1 t348 _ ?side1 ?side2 A8.out).mono ?_); (case side1 => repeat (first | exact (Kd.R_reads' HO347.out).2.2 | (with_reducible refine Kd.C_alloc ?_ _) | (with_reducible refine Kd.C_drewN ?_ _) | (with_reducible refine Kd.C_drew ?_))); (case side2 => exact (Kd.R_reads' HO347.out).2.1); rintro e w21 ⟨v349, rfl, ho0, hb⟩; refine ⟨_, rfl, ?_⟩; have n0_ := Aside0.mk (Kd.R_elder' (by (with_reducible repeat (first | apply Kd.R_alloc | apply Kd.R_drewN | apply Kd.R_drew)); exact HO341.out) (Kd.R_base ho0) hb); have n1_ := Aside0.mk (Kd.R_elder' (by (with_reducible repeat (first | apply Kd.R_alloc | apply Kd.R_drewN | apply Kd.R_drew)); exact HO344.out) (Kd.R_base ho0) hb); have n2_ := Aside0.mk (Kd.R_elder' (by (with_reducible repeat (first | apply Kd.R_alloc | apply Kd.R_drewN | apply Kd.R_drew)); exact HO347.out) (Kd.R_base ho0) hb); have n3_ := Aside0.mk (Kd.R_lower (Kd.R_new' (Kd.R_new' (Kd.R_new' ho0 (Kd.R_lt (by (with_reducible repeat (first | apply Kd.R_alloc | apply Kd.R_drewN | apply Kd.R_drew)); exact HO341.out))) (Kd.R_lt (by (with_reducible repeat (first | apply Kd.R_alloc | apply Kd.R_drewN | apply Kd.R_drew)); exact HO344.out))) (Kd.R_lt (by (with_reducible repeat (first | apply Kd.R_alloc | apply Kd.R_drewN | apply Kd.R_drew)); exact HO347.out))) (below_size (by repeat (first | (with_reducible first | exact HB.out | apply below_alloc | apply pw_below_drewN | apply below_drew1) | exact HB.out)))); have n4_ := Aside0.mk (below_step (by repeat (first | (with_reducible first | exact HB.out | apply below_alloc | apply pw_below_drewN | apply below_drew1) | exact HB.out)) hb); clear HO341; clear HO344; clear HO347; clear HB; have HO341 := n0_; have HO344 := n1_; have HO347 := n2_; have HO350 := n3_; have HB := n4_; clear n0_ n1_ n2_ n3_ n4_; (try clear hb); (try clear hb2); (try clear hk); (try clear hi); (try clear ho0); obtain ⟨Ao22, co22, eo22⟩ := Kd.R_slice HO350.out; subst eo22; obtain ⟨Ao23, co23, eo23⟩ := Kd.R_slice HO344.out; subst eo23) | ((with_reducible refine gate_callee (f := 21) rfl ?_); refine goesL_ (some 29) rfl rfl Try.func21 (by kernel_rfl) rfl #[.slice Ao22 t348.length co22, .slice Ao23 t342.length co23] rfl (by (try simp only [List.map_toArray, List.map_cons, List.map_nil]); first | done | rfl | (simp only [List.length_drop, List.length_take]; rfl)) ?_; (with_reducible refine (laws_eqTimerS.calls k _ _ t348 _ _ t342 true _ ?side1 ?side2 ?side3 ?side4 A9.out).mono ?_); (case side1 => repeat (first | exact (Kd.R_reads' HO350.out).2.2 | (with_reducible refine Kd.C_alloc ?_ _) | (with_reducible refine Kd.C_drewN ?_ _) | (with_reducible refine Kd.C_drew ?_))); (case side2 => exact (Kd.R_reads' HO350.out).2.1); (case side3 => repeat (first | exact (Kd.R_reads' HO344.out).2.2 | (with_reducible refine Kd.C_alloc ?_ _) | (with_reducible refine Kd.C_drewN ?_ _) | (with_reducible refine Kd.C_drew ?_))); (case side4 => exact (Kd.R_reads' HO344.out).2.1); rintro e w24 ⟨rfl, hb⟩; refine ⟨_, rfl, ?_⟩; have n0_ := Aside0.mk (Kd.R_below (by (with_reducible repeat (first | apply Kd.R_alloc | apply Kd.R_drewN | apply Kd.R_drew)); exact HO341.out) hb); have n1_ := Aside0.mk (Kd.R_below (by (with_reducible repeat (first | apply Kd.R_alloc | apply Kd.R_drewN | apply Kd.R_drew)); exact HO344.out) hb); have n2_ := Aside0.mk (Kd.R_below (by (with_reducible repeat (first | apply Kd.R_alloc | apply Kd.R_drewN | apply Kd.R_drew)); exact HO347.out) hb); have n3_ := Aside0.mk (Kd.R_below (by (with_reducible repeat (first | apply Kd.R_alloc | apply Kd.R_drewN | apply Kd.R_drew)); exact HO350.out) hb); have n4_ := Aside0.mk (below_step (by repeat (first | (with_reducible first | exact HB.out | apply below_alloc | apply pw_below_drewN | apply below_drew1) | exact HB.out)) hb); clear HO341; clear HO344; clear HO347; clear HO350; clear HB; have HO341 := n0_; have HO344 := n1_; have HO347 := n2_; have HO350 := n3_; have HB := n4_; clear n0_ n1_ n2_ n3_ n4_; (try clear hb); (try clear hb2); (try clear hk); (try clear hi)) | ((with_reducible refine gate_callee (f := 19) rfl ?_); refine goesL_ (some 33) rfl rfl Try.func19 (by kernel_rfl) rfl #[.slice A0 l0.length c0] rfl (by (try simp only [List.map_toArray, List.map_cons, List.map_nil]); first | done | rfl | (simp only [List.length_drop, List.length_take]; rfl)) ?_; (with_reducible refine (laws_toTimerS.calls k _ _ l0 t352 _ ?side1 ?side2 A11.out).mono ?_); (case side1 => repeat (first | exact (Kd.C_below HR0.out HB.out) | (with_reducible refine Kd.C_alloc ?_ _) | (with_reducible refine Kd.C_drewN ?_ _) | (with_reducible refine Kd.C_drew ?_))); (case side2 => exact HC0.out); rintro e w25 ⟨v353, rfl, ho0, hb⟩; refine ⟨_, rfl, ?_⟩; have n0_ := Aside0.mk (Kd.R_elder' (by (with_reducible repeat (first | apply Kd.R_alloc | apply Kd.R_drewN | apply Kd.R_drew)); exact HO341.out) (Kd.R_base ho0) hb); have n1_ := Aside0.mk (Kd.R_elder' (by (with_reducible repeat (first | apply Kd.R_alloc | apply Kd.R_drewN | apply Kd.R_drew)); exact HO344.out) (Kd.R_base ho0) hb); have n2_ := Aside0.mk (Kd.R_elder' (by (with_reducible repeat (first | apply Kd.R_alloc | apply Kd.R_drewN | apply Kd.R_drew)); exact HO347.out) (Kd.R_base ho0) hb); have n3_ := Aside0.mk (Kd.R_elder' (by (with_reducible repeat (first | apply Kd.R_alloc | apply Kd.R_drewN | apply Kd.R_drew)); exact HO350.out) (Kd.R_base ho0) hb); have n4_ := Aside0.mk (Kd.R_lower (Kd.R_new' (Kd.R_new' (Kd.R_new' (Kd.R_new' ho0 (Kd.R_lt (by (with_reducible repeat (first | apply Kd.R_alloc | apply Kd.R_drewN | apply Kd.R_drew)); exact HO341.out))) (Kd.R_lt (by (with_reducible repeat (first | apply Kd.R_alloc | apply Kd.R_drewN | apply Kd.R_drew)); exact HO344.out))) (Kd.R_lt (by (with_reducible repeat (first | apply Kd.R_alloc | apply Kd.R_drewN | apply Kd.R_drew)); exact HO347.out))) (Kd.R_lt (by (with_reducible repeat (first | apply Kd.R_alloc | apply Kd.R_drewN | apply Kd.R_drew)); exact HO350.out))) (below_size (by repeat (first | (with_reducible first | exact HB.out | apply below_alloc | apply pw_below_drewN | apply below_drew1) | exact HB.out)))); have n5_ := Aside0.mk (below_step (by repeat (first | (with_reducible first | exact HB.out | apply below_alloc | apply pw_below_drewN | apply below_drew1) | exact HB.out)) hb); clear HO341; clear HO344; clear HO347; clear HO350; clear HB; have HO341 := n0_; have HO344 := n1_; have HO347 := n2_; have HO350 := n3_; have HO354 := n4_; have HB := n5_; clear n0_ n1_ n2_ n3_ n4_ n5_; (try clear hb); (try clear hb2); (try clear hk); (try clear hi); (try clear ho0); obtain ⟨Ao26, co26, eo26⟩ := Kd.R_slice HO354.out; subst eo26) | ((with_reducible refine gate_callee (f := 21) rfl ?_); refine goesL_ (some 34) rfl rfl Try.func21 (by kernel_rfl) rfl #[.slice Ao20 t345.length co20, .slice Ao26 t352.length co26] rfl (by (try simp only [List.map_toArray, List.map_cons, List.map_nil]); first | done | rfl | (simp only [List.length_drop, List.length_take]; rfl)) ?_; (with_reducible refine (laws_eqTimerS.calls k _ _ t345 _ _ t352 true _ ?side1 ?side2 ?side3 ?side4 A12.out).mono ?_); (case side1 => repeat (first | exact (Kd.R_reads' HO347.out).2.2 | (with_reducible refine Kd.C_alloc ?_ _) | (with_reducible refine Kd.C_drewN ?_ _) | (with_reducible refine Kd.C_drew ?_))); (case side2 => exact (Kd.R_reads' HO347.out).2.1); (case side3 => repeat (first | exact (Kd.R_reads' HO354.out).2.2 | (with_reducible refine Kd.C_alloc ?_ _) | (with_reducible refine Kd.C_drewN ?_ _) | (with_reducible refine Kd.C_drew ?_))); (case side4 => exact (Kd.R_reads' HO354.out).2.1); rintro e w27 ⟨rfl, hb⟩; refine ⟨_, rfl, ?_⟩; have n0_ := Aside0.mk (Kd.R_below (by (with_reducible repeat (first | apply Kd.R_alloc | apply Kd.R_drewN | apply Kd.R_drew)); exact HO341.out) hb); have n1_ := Aside0.mk (Kd.R_below (by (with_reducible repeat (first | apply Kd.R_alloc | apply Kd.R_drewN | apply Kd.R_drew)); exact HO344.out) hb); have n2_ := Aside0.mk (Kd.R_below (by (with_reducible repeat (first | apply Kd.R_alloc | apply Kd.R_drewN | apply Kd.R_drew)); exact HO347.out) hb); have n3_ := Aside0.mk (Kd.R_below (by (with_reducible repeat (first | apply Kd.R_alloc | apply Kd.R_drewN | apply Kd.R_drew)); exact HO350.out) hb); have n4_ := Aside0.mk (Kd.R_below (by (with_reducible repeat (first | apply Kd.R_alloc | apply Kd.R_drewN | apply Kd.R_drew)); exact HO354.out) hb); have n5_ := Aside0.mk (below_step (by repeat (first | (with_reducible first | exact HB.out | apply below_alloc | apply pw_below_drewN | apply below_drew1) | exact HB.out)) hb); clear HO341; clear HO344; clear HO347; clear HO350; clear HO354; clear HB; have HO341 := n0_; have HO344 := n1_; have HO347 := n2_; have HO350 := n3_; have HO354 := n4_; have HB := n5_; clear n0_ n1_ n2_ n3_ n4_ n5_; (try clear hb); (try clear hb2); (try clear hk); (try clear hi)) | ((with_reducible refine gate_callee (f := 24) rfl ?_); refine goesL_ (some 38) rfl rfl Try.func24 (by kernel_rfl) rfl #[.slice Ao20 t345.length co20, .int .i64 1] rfl (by (try simp only [List.map_toArray, List.map_cons, List.map_nil]); first | done | rfl | (simp only [List.length_drop, List.length_take]; rfl)) ?_; (with_reducible refine (laws_markTimerS.calls k (fun k_ => some k_ = (.slice Ao20 t345.length co20 : Value).ownBlock) (.slice Ao20 t345.length co20) t345 1 t356 t357 w _ ?side1 ?side2 A14.out).mono ?_); (case side1 => repeat (first | (with_reducible first | exact HB.out | apply below_alloc | apply pw_below_drewN | apply below_drew1) | exact HB.out)); (case side2 => exact Kd.R_tight rfl HO347.out); rintro e w28 ⟨rfl, hy0, hb, hkp⟩; refine ⟨_, rfl, ?_⟩; have n0_ := Aside0.mk (Kd.R_mono (ok' := fun k_ => some k_ ≠ (.slice Ao23 t342.length co23 : Value).ownBlock ∧ some k_ ≠ (.slice Ao20 t345.length co20 : Value).ownBlock ∧ some k_ ≠ (.slice Ao22 t348.length co22 : Value).ownBlock ∧ some k_ ≠ (.slice Ao26 t352.length co26 : Value).ownBlock) (Kd.R_keptB (HO341.out) hkp (fun k_ hk_ hs_ => (hk_.1.1.2) hs_)) (fun k_ hk_ => ⟨hk_.1.1.1.1.2, hk_.1.1.1.2, hk_.1.1.2, hk_.1.2⟩)); have n1_ := Aside0.mk (Kd.R_mono (ok' := fun k_ => some k_ ≠ (.slice Ao17 t339.length co17 : Value).ownBlock ∧ some k_ ≠ (.slice Ao20 t345.length co20 : Value).ownBlock ∧ some k_ ≠ (.slice Ao22 t348.length co22 : Value).ownBlock ∧ some k_ ≠ (.slice Ao26 t352.length co26 : Value).ownBlock) (Kd.R_keptB (HO344.out) hkp (fun k_ hk_ hs_ => (hk_.1.1.2) hs_)) (fun k_ hk_ => ⟨hk_.1.1.1.1.2, hk_.1.1.1.2, hk_.1.1.2, hk_.1.2⟩)); have n2_ := Aside0.mk (Kd.R_reok rfl hy0 (fun k_ e_ => HO347.out.1 k_ e_)); have n3_ := Aside0.mk (Kd.R_mono (ok' := fun k_ => some k_ ≠ (.slice Ao17 t339.length co17 : Value).ownBlock ∧ some k_ ≠ (.slice Ao23 t342.length co23 : Value).ownBlock ∧ some k_ ≠ (.slice Ao20 t345.length co20 : Value).ownBlock ∧ some k_ ≠ (.slice Ao26 t352.length co26 : Value).ownBlock) (Kd.R_keptB (HO350.out) hkp (fun k_ hk_ hs_ => (hk_.1.2) hs_)) (fun k_ hk_ => ⟨hk_.1.1.1.1.2, hk_.1.1.1.2, hk_.1.1.2, hk_.1.2⟩)); have n4_ := Aside0.mk (Kd.R_mono (ok' := fun k_ => some k_ ≠ (.slice Ao17 t339.length co17 : Value).ownBlock ∧ some k_ ≠ (.slice Ao23 t342.length co23 : Value).ownBlock ∧ some k_ ≠ (.slice Ao20 t345.length co20 : Value).ownBlock ∧ some k_ ≠ (.slice Ao22 t348.length co22 : Value).ownBlock) (Kd.R_keptB (HO354.out) hkp (fun k_ hk_ hs_ => (hk_.1.2) hs_)) (fun k_ hk_ => ⟨hk_.1.1.1.1.2, hk_.1.1.1.2, hk_.1.1.2, hk_.1.2⟩)); have n5_ := Aside0.mk (hb); clear HO341; clear HO344; clear HO347; clear HO350; clear HO354; clear HB; have HO341 := n0_; have HO344 := n1_; have HO347 := n2_; have HO350 := n3_; have HO354 := n4_; have HB := n5_; clear n0_ n1_ n2_ n3_ n4_ n5_; (try clear hb); (try clear hkp); (try clear hy0)))
    (try simp only [Act.put, List.setIfInBounds_toArray, List.set_cons_zero, List.set_cons_succ])
    go_cut [46] (fun v46 wc => ∃ (kq : Nat) (x46_14 : Bool), v46 = .bool x46_14 ∧ Aside0 (laws_FnExactHeapDrop.j0 kq l0 a1 t342 t348 x46_14 = some r) ∧ Aside0 (kq ≤ k) ∧ Aside0 (Kd.R k25 25 wc w.heap.size (fun k_ => some k_ ≠ ((.slice Ao22 t348.length co22) : Value).ownBlock) (.slice Ao23 t342.length co23) t342) ∧ Aside0 (Kd.R k25 25 wc w.heap.size (fun k_ => some k_ ≠ ((.slice Ao23 t342.length co23) : Value).ownBlock) (.slice Ao22 t348.length co22) t348) ∧ Aside0 (Below w.heap.size w wc))
    case first =>
     have H := HC15.out
     clear HC15
     by_cases c29 : t356 < 0
     ·
      rw [if_pos c29] at H
      have c29b0 : decide (t356 < 0) = true := decide_eq_true c29
      clear c29
      (first | rw [c29b0] | (simp only [i64_w, i32_w]; rw [c29b0]) | skip)
      have H' := Aside0.mk H
      clear H
      go_wp2
      go_meet
      case rel => exact ⟨_, (true), (by first | rfl | (simp; done) | (simp [*]; done)), H', ⟨by first | omega | exact Nat.le_refl _⟩, ⟨by (with_reducible repeat (first | apply Kd.R_alloc | apply Kd.R_drewN | apply Kd.R_drew)); exact Kd.R_mono HO344.out (fun _ hk => hk.2.2.1)⟩, ⟨by (with_reducible repeat (first | apply Kd.R_alloc | apply Kd.R_drewN | apply Kd.R_drew)); exact Kd.R_mono HO350.out (fun _ hk => hk.2.1)⟩, ⟨by repeat (first | (with_reducible first | exact HB.out | apply below_alloc | apply pw_below_drewN | apply below_drew1) | exact HB.out)⟩⟩
     ·
      rw [if_neg c29] at H
      have c29b0 : decide (t356 < 0) = false := decide_eq_false c29
      clear c29
      (first | rw [c29b0] | (simp only [i64_w, i32_w]; rw [c29b0]) | skip)
      replace H := Option.bind_eq_some_iff.mp H
      obtain ⟨t358, A300, H⟩ := H
      replace H : (laws_FnExactHeapDrop.j0 k l0 a1 t342 t348 (!t358)) = some r := H
      have A30 := Aside0.mk A300
      clear A300
      have H' := Aside0.mk H
      clear H
      go_wp2_with (first | (go_at_call 21; (with_reducible refine (laws_eqTimerS.calls k _ _ t348 _ _ t342 t358 _ ?side1 ?side2 ?side3 ?side4 A30.out).mono ?_); (case side1 => repeat (first | exact (Kd.R_reads' HO350.out).2.2 | (with_reducible refine Kd.C_alloc ?_ _) | (with_reducible refine Kd.C_drewN ?_ _) | (with_reducible refine Kd.C_drew ?_))); (case side2 => exact (Kd.R_reads' HO350.out).2.1); (case side3 => repeat (first | exact (Kd.R_reads' HO344.out).2.2 | (with_reducible refine Kd.C_alloc ?_ _) | (with_reducible refine Kd.C_drewN ?_ _) | (with_reducible refine Kd.C_drew ?_))); (case side4 => exact (Kd.R_reads' HO344.out).2.1); rintro e w31 ⟨rfl, hb⟩; have n0_ := Aside0.mk (Kd.R_below (by (with_reducible repeat (first | apply Kd.R_alloc | apply Kd.R_drewN | apply Kd.R_drew)); exact HO341.out) hb); have n1_ := Aside0.mk (Kd.R_below (by (with_reducible repeat (first | apply Kd.R_alloc | apply Kd.R_drewN | apply Kd.R_drew)); exact HO344.out) hb); have n2_ := Aside0.mk (Kd.R_below (by (with_reducible repeat (first | apply Kd.R_alloc | apply Kd.R_drewN | apply Kd.R_drew)); exact HO347.out) hb); have n3_ := Aside0.mk (Kd.R_below (by (with_reducible repeat (first | apply Kd.R_alloc | apply Kd.R_drewN | apply Kd.R_drew)); exact HO350.out) hb); have n4_ := Aside0.mk (Kd.R_below (by (with_reducible repeat (first | apply Kd.R_alloc | apply Kd.R_drewN | apply Kd.R_drew)); exact HO354.out) hb); have n5_ := Aside0.mk (below_step (by repeat (first | (with_reducible first | exact HB.out | apply below_alloc | apply pw_below_drewN | apply below_drew1) | exact HB.out)) hb); clear HO341; clear HO344; clear HO347; clear HO350; clear HO354; clear HB; have HO341 := n0_; have HO344 := n1_; have HO347 := n2_; have HO350 := n3_; have HO354 := n4_; have HB := n5_; clear n0_ n1_ n2_ n3_ n4_ n5_; (try clear hb); (try clear hb2); (try clear hk); (try clear hi)))
      go_meet
      case rel => exact ⟨_, (!t358), (by first | rfl | (simp; done) | (simp [*]; done)), H', ⟨by first | omega | exact Nat.le_refl _⟩, ⟨by (with_reducible repeat (first | apply Kd.R_alloc | apply Kd.R_drewN | apply Kd.R_drew)); exact Kd.R_mono HO344.out (fun _ hk => hk.2.2.1)⟩, ⟨by (with_reducible repeat (first | apply Kd.R_alloc | apply Kd.R_drewN | apply Kd.R_drew)); exact Kd.R_mono HO350.out (fun _ hk => hk.2.1)⟩, ⟨by repeat (first | (with_reducible first | exact HB.out | apply below_alloc | apply pw_below_drewN | apply below_drew1) | exact HB.out)⟩⟩
    case rest =>
     clear HC15
     try clear c1
     try clear c2
     try clear p2
     try clear c3
     try clear c4
     try clear c4b0
     try clear c7
     try clear c10
     try clear c13
     try clear c17
     try clear c19
     try clear c21
     try clear c24
     try clear c29
     try clear c29b0
     try clear c31
     obtain ⟨kq, x46_14, rfl, HA, HJ14, HO_6, HO_8, HB⟩ := hcut
     cases kq with
     | zero => exact absurd HA.out (by simp [laws_FnExactHeapDrop.j0])
     | succ kj14 =>
      have H := HA.out
      clear HA
      simp only [laws_FnExactHeapDrop.j0] at H
      by_cases c32 : x46_14 = true
      ·
       subst c32
       have H1 : (none) = some r := by rw [if_pos rfl] at H; exact H
       clear H
       have H := H1
       clear H1
       exact absurd H (by simp)
      ·
       replace c32 := Bool.eq_false_iff.mpr c32
       subst c32
       have H1 : ((laws_markTimerS.f kj14 t348 1).bind fun bt359 => ((laws_heldTimerS.f kj14 bt359.2 1).bind fun t361 => (if t361 < 0 then (none) else (if t361 = bt359.1 then ((laws_toTimerS.f kj14 l0).bind fun t362 => ((impl_HeapDrop.f kj14 t362 a1).bind fun t365 => ((laws_eqTimerS.f kj14 t365 t342).bind fun t368 => (if t368 = true then ((laws_heldTimerS.f kj14 bt359.2 1).bind fun t369 => (if t369 < 0 then (none) else (if t369 = bt359.1 then (some true) else (none)))) else (none))))) else (none))))) = some r := by rw [if_neg (show ¬ (false = true) by decide)] at H; exact H
       clear H
       have H := H1
       clear H1
       replace H := Option.bind_eq_some_iff.mp H
       obtain ⟨⟨t359, t360⟩, A330, H⟩ := H
       replace H : ((laws_heldTimerS.f kj14 t360 1).bind fun t361 => (if t361 < 0 then (none) else (if t361 = t359 then ((laws_toTimerS.f kj14 l0).bind fun t362 => ((impl_HeapDrop.f kj14 t362 a1).bind fun t365 => ((laws_eqTimerS.f kj14 t365 t342).bind fun t368 => (if t368 = true then ((laws_heldTimerS.f kj14 t360 1).bind fun t369 => (if t369 < 0 then (none) else (if t369 = t359 then (some true) else (none)))) else (none))))) else (none)))) = some r := H
       have A33 := Aside0.mk A330
       clear A330
       replace H := Option.bind_eq_some_iff.mp H
       obtain ⟨t361, A340, H⟩ := H
       replace H : (if t361 < 0 then (none) else (if t361 = t359 then ((laws_toTimerS.f kj14 l0).bind fun t362 => ((impl_HeapDrop.f kj14 t362 a1).bind fun t365 => ((laws_eqTimerS.f kj14 t365 t342).bind fun t368 => (if t368 = true then ((laws_heldTimerS.f kj14 t360 1).bind fun t369 => (if t369 < 0 then (none) else (if t369 = t359 then (some true) else (none)))) else (none))))) else (none))) = some r := H
       have A34 := Aside0.mk A340
       clear A340
       by_cases c35 : t361 < 0
       ·
        rw [if_pos c35] at H
        exact absurd H (by simp)
       ·
        rw [if_neg c35] at H
        have c35b0 : decide (t361 < 0) = false := decide_eq_false c35
        clear c35
        by_cases c36 : t361 = t359
        ·
         rw [if_pos c36] at H
         have c36b0 : (t361 == t359) = true := beq_iff_eq.mpr c36
         have c36b1 : (t361 != t359) = false := bne_eq_false_iff_eq.mpr c36
         clear c36
         replace H := Option.bind_eq_some_iff.mp H
         obtain ⟨t362, A370, H⟩ := H
         replace H : ((impl_HeapDrop.f kj14 t362 a1).bind fun t365 => ((laws_eqTimerS.f kj14 t365 t342).bind fun t368 => (if t368 = true then ((laws_heldTimerS.f kj14 t360 1).bind fun t369 => (if t369 < 0 then (none) else (if t369 = t359 then (some true) else (none)))) else (none)))) = some r := H
         have A37 := Aside0.mk A370
         clear A370
         replace H := Option.bind_eq_some_iff.mp H
         obtain ⟨t365, A380, H⟩ := H
         replace H : ((laws_eqTimerS.f kj14 t365 t342).bind fun t368 => (if t368 = true then ((laws_heldTimerS.f kj14 t360 1).bind fun t369 => (if t369 < 0 then (none) else (if t369 = t359 then (some true) else (none)))) else (none))) = some r := H
         have A38 := Aside0.mk A380
         clear A380
         replace H := Option.bind_eq_some_iff.mp H
         obtain ⟨t368, A390, H⟩ := H
         replace H : (if t368 = true then ((laws_heldTimerS.f kj14 t360 1).bind fun t369 => (if t369 < 0 then (none) else (if t369 = t359 then (some true) else (none)))) else (none)) = some r := H
         have A39 := Aside0.mk A390
         clear A390
         by_cases c40 : t368 = true
         ·
          subst c40
          have H1 : ((laws_heldTimerS.f kj14 t360 1).bind fun t369 => (if t369 < 0 then (none) else (if t369 = t359 then (some true) else (none)))) = some r := by rw [if_pos rfl] at H; exact H
          clear H
          have H := H1
          clear H1
          replace H := Option.bind_eq_some_iff.mp H
          obtain ⟨t369, A410, H⟩ := H
          replace H : (if t369 < 0 then (none) else (if t369 = t359 then (some true) else (none))) = some r := H
          have A41 := Aside0.mk A410
          clear A410
          by_cases c42 : t369 < 0
          ·
           rw [if_pos c42] at H
           exact absurd H (by simp)
          ·
           rw [if_neg c42] at H
           have c42b0 : decide (t369 < 0) = false := decide_eq_false c42
           clear c42
           by_cases c43 : t369 = t359
           ·
            rw [if_pos c43] at H
            have c43b0 : (t369 == t359) = true := beq_iff_eq.mpr c43
            have c43b1 : (t369 != t359) = false := bne_eq_false_iff_eq.mpr c43
            clear c43
            obtain rfl := Option.some.inj H
            go_wp2_with (first | ((with_reducible refine gate_callee (f := 24) rfl ?_); refine goesL_ (some 49) rfl rfl Try.func24 (by kernel_rfl) rfl #[.slice Ao22 t348.length co22, .int .i64 1] rfl (by (try simp only [List.map_toArray, List.map_cons, List.map_nil]); first | done | rfl | (simp only [List.length_drop, List.length_take]; rfl)) ?_; (with_reducible refine (laws_markTimerS.calls kj14 (fun k_ => some k_ = (.slice Ao22 t348.length co22 : Value).ownBlock) (.slice Ao22 t348.length co22) t348 1 t359 t360 w _ ?side1 ?side2 A33.out).mono ?_); (case side1 => repeat (first | (with_reducible first | exact HB.out | apply below_alloc | apply pw_below_drewN | apply below_drew1) | exact HB.out)); (case side2 => exact Kd.R_tight rfl HO_8.out); rintro e w44 ⟨rfl, hy0, hb, hkp⟩; refine ⟨_, rfl, ?_⟩; have n0_ := Aside0.mk (Kd.R_mono (ok' := fun k_ => some k_ ≠ (.slice Ao22 t348.length co22 : Value).ownBlock) (Kd.R_keptB (HO_6.out) hkp (fun k_ hk_ hs_ => (hk_) hs_)) (fun k_ hk_ => hk_.1)); have n1_ := Aside0.mk (Kd.R_reok rfl hy0 (fun k_ e_ => HO_8.out.1 k_ e_)); have n2_ := Aside0.mk (hb); clear HO_6; clear HO_8; clear HB; have HO_6 := n0_; have HO_8 := n1_; have HB := n2_; clear n0_ n1_ n2_; (try clear hb); (try clear hkp); (try clear hy0)) | ((with_reducible refine gate_callee (f := 25) rfl ?_); refine goesL_ (some 52) rfl rfl Try.func25 (by kernel_rfl) rfl #[.slice Ao22 t360.length co22, .int .i64 1] rfl (by (try simp only [List.map_toArray, List.map_cons, List.map_nil]); first | done | (rw [show t360.length = t348.length from (Kd.R_reads' HO_8.out).1.symm] <;> rfl) | rfl | (simp only [List.length_drop, List.length_take]; rfl)) ?_; (with_reducible refine (laws_heldTimerS.calls kj14 _ _ t360 1 t361 _ ?side1 ?side2 A34.out).mono ?_); (case side1 => repeat (first | exact (Kd.R_reads' HO_8.out).2.2 | (with_reducible refine Kd.C_alloc ?_ _) | (with_reducible refine Kd.C_drewN ?_ _) | (with_reducible refine Kd.C_drew ?_))); (case side2 => rw [show t360.length = t348.length from (Kd.R_reads' HO_8.out).1.symm]; exact (Kd.R_reads' HO_8.out).2.1); rintro e w' ⟨rfl, ⟨nd, rfl⟩⟩; refine ⟨_, rfl, ?_⟩) | ((with_reducible refine gate_callee (f := 19) rfl ?_); refine goesL_ (some 59) rfl rfl Try.func19 (by kernel_rfl) rfl #[.slice A0 l0.length c0] rfl (by (try simp only [List.map_toArray, List.map_cons, List.map_nil]); first | done | rfl | (simp only [List.length_drop, List.length_take]; rfl)) ?_; (with_reducible refine (laws_toTimerS.calls kj14 _ _ l0 t362 _ ?side1 ?side2 A37.out).mono ?_); (case side1 => repeat (first | exact (Kd.C_below HR0.out (by repeat (first | (with_reducible first | exact HB.out | apply below_alloc | apply pw_below_drewN | apply below_drew1) | exact HB.out))) | (with_reducible refine Kd.C_alloc ?_ _) | (with_reducible refine Kd.C_drewN ?_ _) | (with_reducible refine Kd.C_drew ?_))); (case side2 => exact HC0.out); rintro e w45 ⟨v363, rfl, ho0, hb⟩; refine ⟨_, rfl, ?_⟩; have n0_ := Aside0.mk (Kd.R_elder' (by (with_reducible repeat (first | apply Kd.R_alloc | apply Kd.R_drewN | apply Kd.R_drew)); exact HO_6.out) (Kd.R_base ho0) hb); have n1_ := Aside0.mk (Kd.R_elder' (by (with_reducible repeat (first | apply Kd.R_alloc | apply Kd.R_drewN | apply Kd.R_drew)); exact HO_8.out) (Kd.R_base ho0) hb); have n2_ := Aside0.mk (Kd.R_lower (Kd.R_new' (Kd.R_new' ho0 (Kd.R_lt (by (with_reducible repeat (first | apply Kd.R_alloc | apply Kd.R_drewN | apply Kd.R_drew)); exact HO_6.out))) (Kd.R_lt (by (with_reducible repeat (first | apply Kd.R_alloc | apply Kd.R_drewN | apply Kd.R_drew)); exact HO_8.out))) (below_size (by repeat (first | (with_reducible first | exact HB.out | apply below_alloc | apply pw_below_drewN | apply below_drew1) | exact HB.out)))); have n3_ := Aside0.mk (below_step (by repeat (first | (with_reducible first | exact HB.out | apply below_alloc | apply pw_below_drewN | apply below_drew1) | exact HB.out)) hb); clear HO_6; clear HO_8; clear HB; have HO_6 := n0_; have HO_8 := n1_; have HO364 := n2_; have HB := n3_; clear n0_ n1_ n2_ n3_; (try clear hb); (try clear hb2); (try clear hk); (try clear hi); (try clear ho0); obtain ⟨Ao46, co46, eo46⟩ := Kd.R_slice HO364.out; subst eo46) | ((with_reducible refine gate_callee (f := 32) rfl ?_); refine goesL_ (some 61) rfl rfl Try.func32 (by kernel_rfl) rfl #[.slice Ao46 t362.length co46, .int .i64 a1] rfl (by (try simp only [List.map_toArray, List.map_cons, List.map_nil]); first | done | rfl | (simp only [List.length_drop, List.length_take]; rfl)) ?_; (with_reducible refine (impl_HeapDrop.calls kj14 _ _ t362 a1 t365 _ ?side1 ?side2 A38.out).mono ?_); (case side1 => repeat (first | exact (Kd.R_reads' HO364.out).2.2 | (with_reducible refine Kd.C_alloc ?_ _) | (with_reducible refine Kd.C_drewN ?_ _) | (with_reducible refine Kd.C_drew ?_))); (case side2 => exact (Kd.R_reads' HO364.out).2.1); rintro e w47 ⟨v366, rfl, ho0, hb⟩; refine ⟨_, rfl, ?_⟩; have n0_ := Aside0.mk (Kd.R_elder' (by (with_reducible repeat (first | apply Kd.R_alloc | apply Kd.R_drewN | apply Kd.R_drew)); exact HO_6.out) (Kd.R_base ho0) hb); have n1_ := Aside0.mk (Kd.R_elder' (by (with_reducible repeat (first | apply Kd.R_alloc | apply Kd.R_drewN | apply Kd.R_drew)); exact HO_8.out) (Kd.R_base ho0) hb); have n2_ := Aside0.mk (Kd.R_elder' (by (with_reducible repeat (first | apply Kd.R_alloc | apply Kd.R_drewN | apply Kd.R_drew)); exact HO364.out) (Kd.R_base ho0) hb); have n3_ := Aside0.mk (Kd.R_lower (Kd.R_new' (Kd.R_new' (Kd.R_new' ho0 (Kd.R_lt (by (with_reducible repeat (first | apply Kd.R_alloc | apply Kd.R_drewN | apply Kd.R_drew)); exact HO_6.out))) (Kd.R_lt (by (with_reducible repeat (first | apply Kd.R_alloc | apply Kd.R_drewN | apply Kd.R_drew)); exact HO_8.out))) (Kd.R_lt (by (with_reducible repeat (first | apply Kd.R_alloc | apply Kd.R_drewN | apply Kd.R_drew)); exact HO364.out))) (below_size (by repeat (first | (with_reducible first | exact HB.out | apply below_alloc | apply pw_below_drewN | apply below_drew1) | exact HB.out)))); have n4_ := Aside0.mk (below_step (by repeat (first | (with_reducible first | exact HB.out | apply below_alloc | apply pw_below_drewN | apply below_drew1) | exact HB.out)) hb); clear HO_6; clear HO_8; clear HO364; clear HB; have HO_6 := n0_; have HO_8 := n1_; have HO364 := n2_; have HO367 := n3_; have HB := n4_; clear n0_ n1_ n2_ n3_ n4_; (try clear hb); (try clear hb2); (try clear hk); (try clear hi); (try clear ho0); obtain ⟨Ao48, co48, eo48⟩ := Kd.R_slice HO367.out; subst eo48) | ((with_reducible refine gate_callee (f := 21) rfl ?_); refine goesL_ (some 64) rfl rfl Try.func21 (by kernel_rfl) rfl #[.slice Ao48 t365.length co48, .slice Ao23 t342.length co23] rfl (by (try simp only [List.map_toArray, List.map_cons, List.map_nil]); first | done | rfl | (simp only [List.length_drop, List.length_take]; rfl)) ?_; (with_reducible refine (laws_eqTimerS.calls kj14 _ _ t365 _ _ t342 true _ ?side1 ?side2 ?side3 ?side4 A39.out).mono ?_); (case side1 => repeat (first | exact (Kd.R_reads' HO367.out).2.2 | (with_reducible refine Kd.C_alloc ?_ _) | (with_reducible refine Kd.C_drewN ?_ _) | (with_reducible refine Kd.C_drew ?_))); (case side2 => exact (Kd.R_reads' HO367.out).2.1); (case side3 => repeat (first | exact (Kd.R_reads' HO_6.out).2.2 | (with_reducible refine Kd.C_alloc ?_ _) | (with_reducible refine Kd.C_drewN ?_ _) | (with_reducible refine Kd.C_drew ?_))); (case side4 => exact (Kd.R_reads' HO_6.out).2.1); rintro e w49 ⟨rfl, hb⟩; refine ⟨_, rfl, ?_⟩; have n0_ := Aside0.mk (Kd.R_below (by (with_reducible repeat (first | apply Kd.R_alloc | apply Kd.R_drewN | apply Kd.R_drew)); exact HO_6.out) hb); have n1_ := Aside0.mk (Kd.R_below (by (with_reducible repeat (first | apply Kd.R_alloc | apply Kd.R_drewN | apply Kd.R_drew)); exact HO_8.out) hb); have n2_ := Aside0.mk (Kd.R_below (by (with_reducible repeat (first | apply Kd.R_alloc | apply Kd.R_drewN | apply Kd.R_drew)); exact HO364.out) hb); have n3_ := Aside0.mk (Kd.R_below (by (with_reducible repeat (first | apply Kd.R_alloc | apply Kd.R_drewN | apply Kd.R_drew)); exact HO367.out) hb); have n4_ := Aside0.mk (below_step (by repeat (first | (with_reducible first | exact HB.out | apply below_alloc | apply pw_below_drewN | apply below_drew1) | exact HB.out)) hb); clear HO_6; clear HO_8; clear HO364; clear HO367; clear HB; have HO_6 := n0_; have HO_8 := n1_; have HO364 := n2_; have HO367 := n3_; have HB := n4_; clear n0_ n1_ n2_ n3_ n4_; (try clear hb); (try clear hb2); (try clear hk); (try clear hi)) | ((with_reducible refine gate_callee (f := 25) rfl ?_); refine goesL_ (some 68) rfl rfl Try.func25 (by kernel_rfl) rfl #[.slice Ao22 t360.length co22, .int .i64 1] rfl (by (try simp only [List.map_toArray, List.map_cons, List.map_nil]); first | done | (rw [show t360.length = t348.length from (Kd.R_reads' HO_8.out).1.symm] <;> rfl) | rfl | (simp only [List.length_drop, List.length_take]; rfl)) ?_; (with_reducible refine (laws_heldTimerS.calls kj14 _ _ t360 1 t369 _ ?side1 ?side2 A41.out).mono ?_); (case side1 => repeat (first | exact (Kd.R_reads' HO_8.out).2.2 | (with_reducible refine Kd.C_alloc ?_ _) | (with_reducible refine Kd.C_drewN ?_ _) | (with_reducible refine Kd.C_drew ?_))); (case side2 => rw [show t360.length = t348.length from (Kd.R_reads' HO_8.out).1.symm]; exact (Kd.R_reads' HO_8.out).2.1); rintro e w' ⟨rfl, ⟨nd, rfl⟩⟩; refine ⟨_, rfl, ?_⟩))
            go_ret
            exact ⟨by first | rfl | (simp [errW_none, errW_some] <;> rfl) | (simp [*, errW_none, errW_some] <;> rfl), by repeat (first | (with_reducible first | exact HB.out | apply below_alloc | apply pw_below_drewN | apply below_drew1) | exact HB.out)⟩
           ·
            rw [if_neg c43] at H
            exact absurd H (by simp)
         ·
          replace c40 := Bool.eq_false_iff.mpr c40
          subst c40
          have H1 : (none) = some r := by rw [if_neg (show ¬ (false = true) by decide)] at H; exact H
          clear H
          have H := H1
          clear H1
          exact absurd H (by simp)
        ·
         rw [if_neg c36] at H
         exact absurd H (by simp)
   ·
    replace c13 := Bool.eq_false_iff.mpr c13
    subst c13
    have H1 : (none) = some r := by rw [if_neg (show ¬ (false = true) by decide)] at H; exact H
    clear H
    have H := H1
    clear H1
    exact absurd H (by simp)
  ·
   replace c10 := Bool.eq_false_iff.mpr c10
   subst c10
   have H1 : (none) = some r := by rw [if_neg (show ¬ (false = true) by decide)] at H; exact H
   clear H
   have H := H1
   clear H1
   exact absurd H (by simp)

end Go.Proofs.Ytkjakmbmnbjpbaa.Print
