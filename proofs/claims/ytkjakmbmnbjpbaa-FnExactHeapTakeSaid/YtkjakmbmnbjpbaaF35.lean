-- Written by printx.py, a program of this session (wip/gen), over the kit's print.py.
import Derived.Test.YtkjakmbmnbjpbaaF0
import Derived.Test.YtkjakmbmnbjpbaaF6
import Derived.Test.YtkjakmbmnbjpbaaF8
import Derived.Test.YtkjakmbmnbjpbaaF10
import Derived.Test.YtkjakmbmnbjpbaaF11
import Derived.Test.YtkjakmbmnbjpbaaF16
import Derived.Test.YtkjakmbmnbjpbaaF17
import Derived.Test.YtkjakmbmnbjpbaaF33
import Derived.Test.YtkjakmbmnbjpbaaF34
namespace Go.Proofs.Ytkjakmbmnbjpbaa.Print
open Go.RowKit Go.Proofs.YtkjakmbmnbjpbaaV.PrintWords Go.Proofs.YtkjakmbmnbjpbaaV.PrintLast Go.Proofs.YtkjakmbmnbjpbaaV.PrintMore
attribute [local go_sem] max2_int min2_int max_two min_two max_three min_three max_four min_four   -- for this text's walks alone
set_option linter.unusedVariables false
set_option linter.unusedSimpArgs false

/-! ### laws_FnExactHeapTake: function 8 -/
mutual
def laws_FnExactHeapTake.j0 : Nat → List (S23) → List (S25) → Bool → List (S25) → List (S25) → Bool → Bool → Int → Int → Int → Int → Option (Bool)
 | 0, _, _, _, _, _, _, _, _, _, _, _ => none
 | k + 1, x0, x4, x6, x7, x8, x10, x51, x448000, x448001, x458000, x458001 => if x51 = true then (none) else ((laws_toTimerS.f k x0).bind fun t460 => ((laws_eqTimerS.f k x7 t460).bind fun t463 => (if t463 = true then ((laws_markTimerS.f k x7 1).bind fun bt464 => (if bt464.1 < 0 then (laws_FnExactHeapTake.j1 k x0 x4 x6 x8 true x448000 x448001) else ((laws_eqTimerS.f k x8 x4).bind fun t466 => (if t466 = true then ((laws_eqTimer.f x458000 x458001 x448000 x448001).bind fun t467 => (if t467 = true then (laws_FnExactHeapTake.j1 k x0 x4 x6 x8 (x10 != x6) x448000 x448001) else (laws_FnExactHeapTake.j1 k x0 x4 x6 x8 true x448000 x448001))) else (laws_FnExactHeapTake.j1 k x0 x4 x6 x8 true x448000 x448001))))) else (none))))
def laws_FnExactHeapTake.j1 : Nat → List (S23) → List (S25) → Bool → List (S25) → Bool → Int → Int → Option (Bool)
 | 0, _, _, _, _, _, _, _ => none
 | k + 1, x0, x4, x6, x8, x78, x448000, x448001 => if x78 = true then (none) else ((laws_markTimerS.f k x8 1).bind fun bt468 => ((laws_heldTimerS.f k bt468.2 1).bind fun t470 => (if t470 < 0 then (none) else (if t470 = bt468.1 then ((laws_toTimerS.f k x0).bind fun t471 => ((impl_HeapTake.f k t471).bind fun bt474 => ((laws_eqTimerS.f k bt474.1 x4).bind fun t481 => (if t481 = true then ((laws_eqTimer.f bt474.2.1 bt474.2.2.1 x448000 x448001).bind fun t482 => (if t482 = true then (laws_FnExactHeapTake.j2 k bt468.2 bt468.1 (bt474.2.2.2 != x6)) else (laws_FnExactHeapTake.j2 k bt468.2 bt468.1 true))) else (laws_FnExactHeapTake.j2 k bt468.2 bt468.1 true))))) else (none)))))
def laws_FnExactHeapTake.j2 : Nat → List (S25) → Int → Bool → Option (Bool)
 | 0, _, _, _ => none
 | k + 1, x8, x12, x111 => if x111 = true then (none) else ((laws_heldTimerS.f k x8 1).bind fun t483 => (if t483 < 0 then (none) else (if t483 = x12 then (some true) else (none))))
end
def laws_FnExactHeapTake.f (k : Nat) (l0 : List (S23)) : Option (Bool) := (laws_szTimerS.f l0 1048576).bind fun t437 => (if t437 < 0 then (some true) else ((laws_toTimerS.f k l0).bind fun t438 => ((spec_HeapTake.f k t438).bind fun bt441 => ((laws_toTimerS.f k l0).bind fun t448 => ((impl_HeapTake.f k t448).bind fun bt451 => ((laws_eqTimerS.f k bt451.1 bt441.1).bind fun t458 => (if t458 = true then ((laws_eqTimer.f bt451.2.1 bt451.2.2.1 bt441.2.1 bt441.2.2.1).bind fun t459 => (if t459 = true then (laws_FnExactHeapTake.j0 k l0 bt441.1 bt441.2.2.2 t448 bt451.1 bt451.2.2.2 (bt451.2.2.2 != bt441.2.2.2) bt441.2.1 bt441.2.2.1 bt451.2.1 bt451.2.2.1) else (laws_FnExactHeapTake.j0 k l0 bt441.1 bt441.2.2.2 t448 bt451.1 bt451.2.2.2 true bt441.2.1 bt441.2.2.1 bt451.2.1 bt451.2.2.1))) else (laws_FnExactHeapTake.j0 k l0 bt441.1 bt441.2.2.2 t448 bt451.1 bt451.2.2.2 true bt441.2.1 bt441.2.2.1 bt451.2.1 bt451.2.2.1))))))))
theorem laws_FnExactHeapTake.mono_l : ∀ k, (∀ y0 y1 y2 y3 y4 y5 y6 y7 y8 y9 y10, LeO (laws_FnExactHeapTake.j0 k y0 y1 y2 y3 y4 y5 y6 y7 y8 y9 y10) (laws_FnExactHeapTake.j0 (k + 1) y0 y1 y2 y3 y4 y5 y6 y7 y8 y9 y10)) ∧ (∀ y0 y1 y2 y3 y4 y5 y6, LeO (laws_FnExactHeapTake.j1 k y0 y1 y2 y3 y4 y5 y6) (laws_FnExactHeapTake.j1 (k + 1) y0 y1 y2 y3 y4 y5 y6)) ∧ (∀ y0 y1 y2, LeO (laws_FnExactHeapTake.j2 k y0 y1 y2) (laws_FnExactHeapTake.j2 (k + 1) y0 y1 y2))
 | 0 => ⟨fun _ _ _ _ _ _ _ _ _ _ _ r h => by simp [laws_FnExactHeapTake.j0] at h, fun _ _ _ _ _ _ _ r h => by simp [laws_FnExactHeapTake.j1] at h, fun _ _ _ r h => by simp [laws_FnExactHeapTake.j2] at h⟩
 | k + 1 => by
  obtain ⟨ih0, ih1, ih2⟩ := laws_FnExactHeapTake.mono_l k
  refine ⟨?_, ?_, ?_⟩
  ·
   intro y0 y1 y2 y3 y4 y5 y6 y7 y8 y9 y10
   unfold laws_FnExactHeapTake.j0
   repeat' first
   | (with_reducible exact ih0 _ _ _ _ _ _ _ _ _ _ _)
   | (with_reducible exact ih1 _ _ _ _ _ _ _)
   | (with_reducible exact ih2 _ _ _)
   | (with_reducible exact impl_HeapTake.mono _ _)
   | (with_reducible exact laws_eqTimerS.mono _ _ _)
   | (with_reducible exact laws_heldTimerS.mono _ _ _)
   | (with_reducible exact laws_markTimerS.mono _ _ _)
   | (with_reducible exact laws_toTimerS.mono _ _)
   | (with_reducible exact spec_HeapTake.mono _ _)
   | (with_reducible exact LeO.refl _)
   | (with_reducible exact LeO.none _)
   | (with_reducible refine LeO.ite ?_ ?_)
   | (with_reducible refine LeO.bind ?_ (fun _ => ?_))
   | exact ih0 _ _ _ _ _ _ _ _ _ _ _
   | exact ih1 _ _ _ _ _ _ _
   | exact ih2 _ _ _
   | exact impl_HeapTake.mono _ _
   | exact laws_eqTimerS.mono _ _ _
   | exact laws_heldTimerS.mono _ _ _
   | exact laws_markTimerS.mono _ _ _
   | exact laws_toTimerS.mono _ _
   | exact spec_HeapTake.mono _ _
   | exact LeO.none _
   | refine LeO.ite ?_ ?_
   | refine LeO.bind ?_ (fun _ => ?_)
  ·
   intro y0 y1 y2 y3 y4 y5 y6
   unfold laws_FnExactHeapTake.j1
   repeat' first
   | (with_reducible exact ih0 _ _ _ _ _ _ _ _ _ _ _)
   | (with_reducible exact ih1 _ _ _ _ _ _ _)
   | (with_reducible exact ih2 _ _ _)
   | (with_reducible exact impl_HeapTake.mono _ _)
   | (with_reducible exact laws_eqTimerS.mono _ _ _)
   | (with_reducible exact laws_heldTimerS.mono _ _ _)
   | (with_reducible exact laws_markTimerS.mono _ _ _)
   | (with_reducible exact laws_toTimerS.mono _ _)
   | (with_reducible exact spec_HeapTake.mono _ _)
   | (with_reducible exact LeO.refl _)
   | (with_reducible exact LeO.none _)
   | (with_reducible refine LeO.ite ?_ ?_)
   | (with_reducible refine LeO.bind ?_ (fun _ => ?_))
   | exact ih0 _ _ _ _ _ _ _ _ _ _ _
   | exact ih1 _ _ _ _ _ _ _
   | exact ih2 _ _ _
   | exact impl_HeapTake.mono _ _
   | exact laws_eqTimerS.mono _ _ _
   | exact laws_heldTimerS.mono _ _ _
   | exact laws_markTimerS.mono _ _ _
   | exact laws_toTimerS.mono _ _
   | exact spec_HeapTake.mono _ _
   | exact LeO.none _
   | refine LeO.ite ?_ ?_
   | refine LeO.bind ?_ (fun _ => ?_)
  ·
   intro y0 y1 y2
   unfold laws_FnExactHeapTake.j2
   repeat' first
   | (with_reducible exact ih0 _ _ _ _ _ _ _ _ _ _ _)
   | (with_reducible exact ih1 _ _ _ _ _ _ _)
   | (with_reducible exact ih2 _ _ _)
   | (with_reducible exact impl_HeapTake.mono _ _)
   | (with_reducible exact laws_eqTimerS.mono _ _ _)
   | (with_reducible exact laws_heldTimerS.mono _ _ _)
   | (with_reducible exact laws_markTimerS.mono _ _ _)
   | (with_reducible exact laws_toTimerS.mono _ _)
   | (with_reducible exact spec_HeapTake.mono _ _)
   | (with_reducible exact LeO.refl _)
   | (with_reducible exact LeO.none _)
   | (with_reducible refine LeO.ite ?_ ?_)
   | (with_reducible refine LeO.bind ?_ (fun _ => ?_))
   | exact ih0 _ _ _ _ _ _ _ _ _ _ _
   | exact ih1 _ _ _ _ _ _ _
   | exact ih2 _ _ _
   | exact impl_HeapTake.mono _ _
   | exact laws_eqTimerS.mono _ _ _
   | exact laws_heldTimerS.mono _ _ _
   | exact laws_markTimerS.mono _ _ _
   | exact laws_toTimerS.mono _ _
   | exact spec_HeapTake.mono _ _
   | exact LeO.none _
   | refine LeO.ite ?_ ?_
   | refine LeO.bind ?_ (fun _ => ?_)
theorem laws_FnExactHeapTake.mono : ∀ a0 k, LeO (laws_FnExactHeapTake.f k a0) (laws_FnExactHeapTake.f (k + 1) a0) := by
 intro a0 k
 obtain ⟨ih0, ih1, ih2⟩ := laws_FnExactHeapTake.mono_l k
 unfold laws_FnExactHeapTake.f
 repeat' first
   | (with_reducible exact ih0 _ _ _ _ _ _ _ _ _ _ _)
   | (with_reducible exact ih1 _ _ _ _ _ _ _)
   | (with_reducible exact ih2 _ _ _)
   | (with_reducible exact impl_HeapTake.mono _ _)
   | (with_reducible exact laws_eqTimerS.mono _ _ _)
   | (with_reducible exact laws_heldTimerS.mono _ _ _)
   | (with_reducible exact laws_markTimerS.mono _ _ _)
   | (with_reducible exact laws_toTimerS.mono _ _)
   | (with_reducible exact spec_HeapTake.mono _ _)
   | (with_reducible exact LeO.refl _)
   | (with_reducible exact LeO.none _)
   | (with_reducible refine LeO.ite ?_ ?_)
   | (with_reducible refine LeO.bind ?_ (fun _ => ?_))
   | exact ih0 _ _ _ _ _ _ _ _ _ _ _
   | exact ih1 _ _ _ _ _ _ _
   | exact ih2 _ _ _
   | exact impl_HeapTake.mono _ _
   | exact laws_eqTimerS.mono _ _ _
   | exact laws_heldTimerS.mono _ _ _
   | exact laws_markTimerS.mono _ _ _
   | exact laws_toTimerS.mono _ _
   | exact spec_HeapTake.mono _ _
   | exact LeO.none _
   | refine LeO.ite ?_ ?_
   | refine LeO.bind ?_ (fun _ => ?_)
set_option maxHeartbeats 8000000 in
set_option maxRecDepth 100000 in
theorem laws_FnExactHeapTake.calls (k : Nat) (A0 : Option Addr) (c0 : Nat) (l0 : List (S23)) (r : Bool) (w : World) (hr0 : Kd.C k23 w A0 l0.length l0) (hc0 : l0.length ≤ c0) (h : laws_FnExactHeapTake.f k l0 = some r) :
  Calls Try.prog 8 #[.slice A0 l0.length c0] w fun e w' => e = .returned (.bool r) ∧ Below w.heap.size w w' := by
 have hu25 := Try.underlying25
 have HR0 := Aside0.mk hr0
 have HC0 := Aside0.mk hc0
 clear hr0 hc0
 have HB := Aside0.mk (Below.refl w.heap.size w)
 have H : ((laws_szTimerS.f l0 1048576).bind fun t437 => (if t437 < 0 then (some true) else ((laws_toTimerS.f k l0).bind fun t438 => ((spec_HeapTake.f k t438).bind fun bt441 => ((laws_toTimerS.f k l0).bind fun t448 => ((impl_HeapTake.f k t448).bind fun bt451 => ((laws_eqTimerS.f k bt451.1 bt441.1).bind fun t458 => (if t458 = true then ((laws_eqTimer.f bt451.2.1 bt451.2.2.1 bt441.2.1 bt441.2.2.1).bind fun t459 => (if t459 = true then (laws_FnExactHeapTake.j0 k l0 bt441.1 bt441.2.2.2 t448 bt451.1 bt451.2.2.2 (bt451.2.2.2 != bt441.2.2.2) bt441.2.1 bt441.2.2.1 bt451.2.1 bt451.2.2.1) else (laws_FnExactHeapTake.j0 k l0 bt441.1 bt441.2.2.2 t448 bt451.1 bt451.2.2.2 true bt441.2.1 bt441.2.2.1 bt451.2.1 bt451.2.2.1))) else (laws_FnExactHeapTake.j0 k l0 bt441.1 bt441.2.2.2 t448 bt451.1 bt451.2.2.2 true bt441.2.1 bt441.2.2.1 bt451.2.1 bt451.2.2.1))))))))) = some r := h
 clear h
 replace H := Option.bind_eq_some_iff.mp H
 obtain ⟨t437, A20, H⟩ := H
 replace H : (if t437 < 0 then (some true) else ((laws_toTimerS.f k l0).bind fun t438 => ((spec_HeapTake.f k t438).bind fun bt441 => ((laws_toTimerS.f k l0).bind fun t448 => ((impl_HeapTake.f k t448).bind fun bt451 => ((laws_eqTimerS.f k bt451.1 bt441.1).bind fun t458 => (if t458 = true then ((laws_eqTimer.f bt451.2.1 bt451.2.2.1 bt441.2.1 bt441.2.2.1).bind fun t459 => (if t459 = true then (laws_FnExactHeapTake.j0 k l0 bt441.1 bt441.2.2.2 t448 bt451.1 bt451.2.2.2 (bt451.2.2.2 != bt441.2.2.2) bt441.2.1 bt441.2.2.1 bt451.2.1 bt451.2.2.1) else (laws_FnExactHeapTake.j0 k l0 bt441.1 bt441.2.2.2 t448 bt451.1 bt451.2.2.2 true bt441.2.1 bt441.2.2.1 bt451.2.1 bt451.2.2.1))) else (laws_FnExactHeapTake.j0 k l0 bt441.1 bt441.2.2.2 t448 bt451.1 bt451.2.2.2 true bt441.2.1 bt441.2.2.1 bt451.2.1 bt451.2.2.1)))))))) = some r := H
 have A2 := Aside0.mk A20
 clear A20
 by_cases c3 : t437 < 0
 ·
  rw [if_pos c3] at H
  have c3b0 : decide (t437 < 0) = true := decide_eq_true c3
  clear c3
  obtain rfl := Option.some.inj H
  go_enter Try.func8, Try.ntmps8
  go_wp2_with (first | ((with_reducible refine gate_callee (f := 17) rfl ?_); refine goesL_ (some 19) rfl rfl Try.func17 (by kernel_rfl) rfl #[.slice A0 l0.length c0, .int .i64 1048576] rfl (by (try simp only [List.map_toArray, List.map_cons, List.map_nil]); first | done | rfl | (simp only [List.length_drop, List.length_take]; rfl)) ?_; (with_reducible refine (laws_szTimerS.calls _ _ l0 1048576 t437 _ ?side1 ?side2 A2.out).mono ?_); (case side1 => repeat (first | exact HR0.out | (with_reducible refine Kd.C_alloc ?_ _) | (with_reducible refine Kd.C_drewN ?_ _) | (with_reducible refine Kd.C_drew ?_))); (case side2 => exact HC0.out); rintro e w' ⟨rfl, ⟨nd, rfl⟩⟩; refine ⟨_, rfl, ?_⟩))
  go_ret
  exact ⟨by first | rfl | (simp [errW_none, errW_some] <;> rfl) | (simp [*, errW_none, errW_some] <;> rfl), by repeat (first | (with_reducible first | exact HB.out | apply below_alloc | apply pw_below_drewN | apply below_drew1) | exact HB.out)⟩
 ·
  rw [if_neg c3] at H
  have c3b0 : decide (t437 < 0) = false := decide_eq_false c3
  clear c3
  replace H := Option.bind_eq_some_iff.mp H
  obtain ⟨t438, A40, H⟩ := H
  replace H : ((spec_HeapTake.f k t438).bind fun bt441 => ((laws_toTimerS.f k l0).bind fun t448 => ((impl_HeapTake.f k t448).bind fun bt451 => ((laws_eqTimerS.f k bt451.1 bt441.1).bind fun t458 => (if t458 = true then ((laws_eqTimer.f bt451.2.1 bt451.2.2.1 bt441.2.1 bt441.2.2.1).bind fun t459 => (if t459 = true then (laws_FnExactHeapTake.j0 k l0 bt441.1 bt441.2.2.2 t448 bt451.1 bt451.2.2.2 (bt451.2.2.2 != bt441.2.2.2) bt441.2.1 bt441.2.2.1 bt451.2.1 bt451.2.2.1) else (laws_FnExactHeapTake.j0 k l0 bt441.1 bt441.2.2.2 t448 bt451.1 bt451.2.2.2 true bt441.2.1 bt441.2.2.1 bt451.2.1 bt451.2.2.1))) else (laws_FnExactHeapTake.j0 k l0 bt441.1 bt441.2.2.2 t448 bt451.1 bt451.2.2.2 true bt441.2.1 bt441.2.2.1 bt451.2.1 bt451.2.2.1)))))) = some r := H
  have A4 := Aside0.mk A40
  clear A40
  replace H := Option.bind_eq_some_iff.mp H
  obtain ⟨⟨t441, t444, t445, t446⟩, A50, H⟩ := H
  replace H : ((laws_toTimerS.f k l0).bind fun t448 => ((impl_HeapTake.f k t448).bind fun bt451 => ((laws_eqTimerS.f k bt451.1 t441).bind fun t458 => (if t458 = true then ((laws_eqTimer.f bt451.2.1 bt451.2.2.1 t444 t445).bind fun t459 => (if t459 = true then (laws_FnExactHeapTake.j0 k l0 t441 t446 t448 bt451.1 bt451.2.2.2 (bt451.2.2.2 != t446) t444 t445 bt451.2.1 bt451.2.2.1) else (laws_FnExactHeapTake.j0 k l0 t441 t446 t448 bt451.1 bt451.2.2.2 true t444 t445 bt451.2.1 bt451.2.2.1))) else (laws_FnExactHeapTake.j0 k l0 t441 t446 t448 bt451.1 bt451.2.2.2 true t444 t445 bt451.2.1 bt451.2.2.1))))) = some r := H
  have A5 := Aside0.mk A50
  clear A50
  replace H := Option.bind_eq_some_iff.mp H
  obtain ⟨t448, A60, H⟩ := H
  replace H : ((impl_HeapTake.f k t448).bind fun bt451 => ((laws_eqTimerS.f k bt451.1 t441).bind fun t458 => (if t458 = true then ((laws_eqTimer.f bt451.2.1 bt451.2.2.1 t444 t445).bind fun t459 => (if t459 = true then (laws_FnExactHeapTake.j0 k l0 t441 t446 t448 bt451.1 bt451.2.2.2 (bt451.2.2.2 != t446) t444 t445 bt451.2.1 bt451.2.2.1) else (laws_FnExactHeapTake.j0 k l0 t441 t446 t448 bt451.1 bt451.2.2.2 true t444 t445 bt451.2.1 bt451.2.2.1))) else (laws_FnExactHeapTake.j0 k l0 t441 t446 t448 bt451.1 bt451.2.2.2 true t444 t445 bt451.2.1 bt451.2.2.1)))) = some r := H
  have A6 := Aside0.mk A60
  clear A60
  replace H := Option.bind_eq_some_iff.mp H
  obtain ⟨⟨t451, t454, t455, t456⟩, A70, H⟩ := H
  replace H : ((laws_eqTimerS.f k t451 t441).bind fun t458 => (if t458 = true then ((laws_eqTimer.f t454 t455 t444 t445).bind fun t459 => (if t459 = true then (laws_FnExactHeapTake.j0 k l0 t441 t446 t448 t451 t456 (t456 != t446) t444 t445 t454 t455) else (laws_FnExactHeapTake.j0 k l0 t441 t446 t448 t451 t456 true t444 t445 t454 t455))) else (laws_FnExactHeapTake.j0 k l0 t441 t446 t448 t451 t456 true t444 t445 t454 t455))) = some r := H
  have A7 := Aside0.mk A70
  clear A70
  have HC8 := Aside0.mk H
  clear H
  go_enter Try.func8, Try.ntmps8
  go_upto_region 8 with (first | ((with_reducible refine gate_callee (f := 17) rfl ?_); refine goesL_ (some 19) rfl rfl Try.func17 (by kernel_rfl) rfl #[.slice A0 l0.length c0, .int .i64 1048576] rfl (by (try simp only [List.map_toArray, List.map_cons, List.map_nil]); first | done | rfl | (simp only [List.length_drop, List.length_take]; rfl)) ?_; (with_reducible refine (laws_szTimerS.calls _ _ l0 1048576 t437 _ ?side1 ?side2 A2.out).mono ?_); (case side1 => repeat (first | exact HR0.out | (with_reducible refine Kd.C_alloc ?_ _) | (with_reducible refine Kd.C_drewN ?_ _) | (with_reducible refine Kd.C_drew ?_))); (case side2 => exact HC0.out); rintro e w' ⟨rfl, ⟨nd, rfl⟩⟩; refine ⟨_, rfl, ?_⟩) | ((with_reducible refine gate_callee (f := 19) rfl ?_); refine goesL_ (some 24) rfl rfl Try.func19 (by kernel_rfl) rfl #[.slice A0 l0.length c0] rfl (by (try simp only [List.map_toArray, List.map_cons, List.map_nil]); first | done | rfl | (simp only [List.length_drop, List.length_take]; rfl)) ?_; (with_reducible refine (laws_toTimerS.calls k _ _ l0 t438 _ ?side1 ?side2 A4.out).mono ?_); (case side1 => repeat (first | exact HR0.out | (with_reducible refine Kd.C_alloc ?_ _) | (with_reducible refine Kd.C_drewN ?_ _) | (with_reducible refine Kd.C_drew ?_))); (case side2 => exact HC0.out); rintro e w9 ⟨v439, rfl, ho0, hb⟩; refine ⟨_, rfl, ?_⟩; have n0_ := Aside0.mk (Kd.R_lower ho0 (below_size (by repeat (first | (with_reducible first | exact HB.out | apply below_alloc | apply pw_below_drewN | apply below_drew1) | exact HB.out)))); have n1_ := Aside0.mk (below_step (by repeat (first | (with_reducible first | exact HB.out | apply below_alloc | apply pw_below_drewN | apply below_drew1) | exact HB.out)) hb); clear HB; have HO440 := n0_; have HB := n1_; clear n0_ n1_; (try clear hb); (try clear hb2); (try clear hk); (try clear hi); (try clear ho0); obtain ⟨Ao10, co10, eo10⟩ := Kd.R_slice HO440.out; subst eo10) | ((with_reducible refine gate_callee (f := 33) rfl ?_); refine goesL_ (some 25) rfl rfl Try.func33 (by kernel_rfl) rfl #[.slice Ao10 t438.length co10] rfl (by (try simp only [List.map_toArray, List.map_cons, List.map_nil]); first | done | rfl | (simp only [List.length_drop, List.length_take]; rfl)) ?_; (with_reducible refine (spec_HeapTake.calls k _ _ t438 t441 t444 t445 t446 _ ?side1 ?side2 A5.out).mono ?_); (case side1 => repeat (first | exact (Kd.R_reads' HO440.out).2.2 | (with_reducible refine Kd.C_alloc ?_ _) | (with_reducible refine Kd.C_drewN ?_ _) | (with_reducible refine Kd.C_drew ?_))); (case side2 => exact (Kd.R_reads' HO440.out).2.1); rintro e w11 ⟨v442, rfl, ho0, hb⟩; refine ⟨_, rfl, ?_⟩; have n0_ := Aside0.mk (Kd.R_elder' (by (with_reducible repeat (first | apply Kd.R_alloc | apply Kd.R_drewN | apply Kd.R_drew)); exact HO440.out) (Kd.R_base ho0) hb); have n1_ := Aside0.mk (Kd.R_lower (Kd.R_new' ho0 (Kd.R_lt (by (with_reducible repeat (first | apply Kd.R_alloc | apply Kd.R_drewN | apply Kd.R_drew)); exact HO440.out))) (below_size (by repeat (first | (with_reducible first | exact HB.out | apply below_alloc | apply pw_below_drewN | apply below_drew1) | exact HB.out)))); have n2_ := Aside0.mk (below_step (by repeat (first | (with_reducible first | exact HB.out | apply below_alloc | apply pw_below_drewN | apply below_drew1) | exact HB.out)) hb); clear HO440; clear HB; have HO440 := n0_; have HO443 := n1_; have HB := n2_; clear n0_ n1_ n2_; (try clear hb); (try clear hb2); (try clear hk); (try clear hi); (try clear ho0)) | ((with_reducible refine gate_dst (N := 5) rfl ?_); refine box_event ?hg (N := 5) ?hd (cs := #[.int .i64 0, .int .i64 0]) (t := 25) ?hr ?_; (case hd => rfl); (case hg => rfl); (case hr => first | (go_simp; done) | (go_simp; rfl)); intro gb447 hg w12 hbox hb; have n0_ := Aside0.mk (Kd.R_below (Kd.R_elderB (by (with_reducible repeat (first | apply Kd.R_alloc | apply Kd.R_drewN | apply Kd.R_drew)); exact HO440.out) gb447 (Nat.le_of_eq hg.symm)) hb); have n1_ := Aside0.mk (Kd.R_below (Kd.R_elderB (by (with_reducible repeat (first | apply Kd.R_alloc | apply Kd.R_drewN | apply Kd.R_drew)); exact HO443.out) gb447 (Nat.le_of_eq hg.symm)) hb); have n2_ := Aside0.mk (below_step (by repeat (first | (with_reducible first | exact HB.out | apply below_alloc | apply pw_below_drewN | apply below_drew1) | exact HB.out)) hb); have n3_ := Aside0.mk (hbox); have n4_ := Aside0.mk ((by rw [hg]; exact (below_size (by repeat (first | (with_reducible first | exact HB.out | apply below_alloc | apply pw_below_drewN | apply below_drew1) | exact HB.out))) : w.heap.size ≤ gb447)); have n5_ := Aside0.mk ((by rw [hg]; exact (below_size (by repeat (first | (with_reducible first | exact HB.out | apply below_alloc | apply pw_below_drewN | apply below_drew1) | exact HB.out))) : w.heap.size ≤ gb447)); clear HO440; clear HO443; clear HB; have HO440 := n0_; have HO443 := n1_; have HB := n2_; have BK447 := n3_; have GW447 := n4_; have GE447 := n5_; clear n0_ n1_ n2_ n3_ n4_ n5_; clear hb hbox hg; have hcz13_0 : w12.cell? ⟨gb447, 0, none⟩ = some (.int .i64 0) := (blk_cell BK447.out 0).trans rfl; have hcz13_1 : w12.cell? ⟨gb447, 1, none⟩ = some (.int .i64 0) := (blk_cell BK447.out 1).trans rfl; have hfz13_0 := blk_frozen BK447.out 0; have hfz13_1 := blk_frozen BK447.out 1) | ((with_reducible refine gate_callee (f := 19) rfl ?_); refine goesL_ (some 30) rfl rfl Try.func19 (by kernel_rfl) rfl #[.slice A0 l0.length c0] rfl (by (try simp only [List.map_toArray, List.map_cons, List.map_nil]); first | done | rfl | (simp only [List.length_drop, List.length_take]; rfl)) ?_; (with_reducible refine (laws_toTimerS.calls k _ _ l0 t448 _ ?side1 ?side2 A6.out).mono ?_); (case side1 => exact Kd.C_below HR0.out (by repeat (first | (with_reducible first | exact HB.out | apply below_alloc | apply pw_below_drewN | apply below_drew1 | refine below_set ?_ GE447.out) | exact HB.out))); (case side2 => exact HC0.out); rintro e w14 ⟨v449, rfl, ho0, hb⟩; refine ⟨_, rfl, ?_⟩; have n0_ := Aside0.mk (Kd.R_elder' (by (with_reducible repeat (first | apply Kd.R_alloc | apply Kd.R_drewN | apply Kd.R_drew)); exact (Kd.R_mono (Kd.R_far (p := ⟨gb447, 1, none⟩) (Kd.R_far (p := ⟨gb447, 0, none⟩) (Kd.R_mono HO440.out (fun k_ hk => (⟨hk, hk.2⟩ : _ ∧ k_ ≠ gb447))) (fun _ hk => hk.2) (.int .i64 t444)) (fun _ hk => hk.2) (.int .i64 t445)) (fun _ h_ => h_.1))) (Kd.R_base ho0) hb); have n1_ := Aside0.mk (Kd.R_elder' (by (with_reducible repeat (first | apply Kd.R_alloc | apply Kd.R_drewN | apply Kd.R_drew)); exact (Kd.R_mono (Kd.R_far (p := ⟨gb447, 1, none⟩) (Kd.R_far (p := ⟨gb447, 0, none⟩) (Kd.R_mono HO443.out (fun k_ hk => (⟨hk, hk.2⟩ : _ ∧ k_ ≠ gb447))) (fun _ hk => hk.2) (.int .i64 t444)) (fun _ hk => hk.2) (.int .i64 t445)) (fun _ h_ => h_.1))) (Kd.R_base ho0) hb); have n2_ := Aside0.mk (Kd.R_lower (Kd.R_newB (Kd.R_new' (Kd.R_new' ho0 (Kd.R_lt (by (with_reducible repeat (first | apply Kd.R_alloc | apply Kd.R_drewN | apply Kd.R_drew)); exact (Kd.R_mono (Kd.R_far (p := ⟨gb447, 1, none⟩) (Kd.R_far (p := ⟨gb447, 0, none⟩) (Kd.R_mono HO440.out (fun k_ hk => (⟨hk, hk.2⟩ : _ ∧ k_ ≠ gb447))) (fun _ hk => hk.2) (.int .i64 t444)) (fun _ hk => hk.2) (.int .i64 t445)) (fun _ h_ => h_.1))))) (Kd.R_lt (by (with_reducible repeat (first | apply Kd.R_alloc | apply Kd.R_drewN | apply Kd.R_drew)); exact (Kd.R_mono (Kd.R_far (p := ⟨gb447, 1, none⟩) (Kd.R_far (p := ⟨gb447, 0, none⟩) (Kd.R_mono HO443.out (fun k_ hk => (⟨hk, hk.2⟩ : _ ∧ k_ ≠ gb447))) (fun _ hk => hk.2) (.int .i64 t444)) (fun _ hk => hk.2) (.int .i64 t445)) (fun _ h_ => h_.1))))) (g := gb447) (o := .cells #[.int .i64 t444, .int .i64 t445] 25 (0, 0)) (by (with_reducible repeat (first | refine blk_drewN ?_ _ | refine blk_drew ?_ | refine blk_alloc ?_ _)); refine blk_put (cs := #[.int .i64 t444, .int .i64 0]) ?_ 1 _ rfl; (with_reducible repeat (first | refine blk_drewN ?_ _ | refine blk_drew ?_ | refine blk_alloc ?_ _)); refine blk_put (cs := #[.int .i64 0, .int .i64 0]) ?_ 0 _ rfl; (with_reducible repeat (first | refine blk_drewN ?_ _ | refine blk_drew ?_ | refine blk_alloc ?_ _)); exact BK447.out)) (below_size (by repeat (first | (with_reducible first | exact HB.out | apply below_alloc | apply pw_below_drewN | apply below_drew1 | refine below_set ?_ GE447.out) | exact HB.out)))); have n3_ := Aside0.mk (blk_below (g := gb447) (o := .cells #[.int .i64 t444, .int .i64 t445] 25 (0, 0)) (by (with_reducible repeat (first | refine blk_drewN ?_ _ | refine blk_drew ?_ | refine blk_alloc ?_ _)); refine blk_put (cs := #[.int .i64 t444, .int .i64 0]) ?_ 1 _ rfl; (with_reducible repeat (first | refine blk_drewN ?_ _ | refine blk_drew ?_ | refine blk_alloc ?_ _)); refine blk_put (cs := #[.int .i64 0, .int .i64 0]) ?_ 0 _ rfl; (with_reducible repeat (first | refine blk_drewN ?_ _ | refine blk_drew ?_ | refine blk_alloc ?_ _)); exact BK447.out) hb); have n4_ := Aside0.mk (below_step (by repeat (first | (with_reducible first | exact HB.out | apply below_alloc | apply pw_below_drewN | apply below_drew1 | refine below_set ?_ GE447.out) | exact HB.out)) hb); clear HO440; clear HO443; clear BK447; clear HB; have HO440 := n0_; have HO443 := n1_; have HO450 := n2_; have BK447 := n3_; have HB := n4_; clear n0_ n1_ n2_ n3_ n4_; (try clear hb); (try clear hb2); (try clear hk); (try clear hi); (try clear ho0); obtain ⟨Ao15, co15, eo15⟩ := Kd.R_slice HO450.out; subst eo15) | ((with_reducible refine gate_callee (f := 34) rfl ?_); refine goesL_ (some 33) rfl rfl Try.func34 (by kernel_rfl) rfl #[.slice Ao15 t448.length co15] rfl (by (try simp only [List.map_toArray, List.map_cons, List.map_nil]); first | done | rfl | (simp only [List.length_drop, List.length_take]; rfl)) ?_; (with_reducible refine (impl_HeapTake.calls k _ _ t448 t451 t454 t455 t456 _ ?side1 ?side2 A7.out).mono ?_); (case side1 => repeat (first | exact (Kd.R_reads' HO450.out).2.2 | (with_reducible refine Kd.C_alloc ?_ _) | (with_reducible refine Kd.C_drewN ?_ _) | (with_reducible refine Kd.C_drew ?_))); (case side2 => exact (Kd.R_reads' HO450.out).2.1); rintro e w16 ⟨v452, rfl, ho0, hb⟩; refine ⟨_, rfl, ?_⟩; have n0_ := Aside0.mk (Kd.R_elder' (by (with_reducible repeat (first | apply Kd.R_alloc | apply Kd.R_drewN | apply Kd.R_drew)); exact HO440.out) (Kd.R_base ho0) hb); have n1_ := Aside0.mk (Kd.R_elder' (by (with_reducible repeat (first | apply Kd.R_alloc | apply Kd.R_drewN | apply Kd.R_drew)); exact HO443.out) (Kd.R_base ho0) hb); have n2_ := Aside0.mk (Kd.R_elder' (by (with_reducible repeat (first | apply Kd.R_alloc | apply Kd.R_drewN | apply Kd.R_drew)); exact HO450.out) (Kd.R_base ho0) hb); have n3_ := Aside0.mk (Kd.R_lower (Kd.R_newB (Kd.R_new' (Kd.R_new' (Kd.R_new' ho0 (Kd.R_lt (by (with_reducible repeat (first | apply Kd.R_alloc | apply Kd.R_drewN | apply Kd.R_drew)); exact HO440.out))) (Kd.R_lt (by (with_reducible repeat (first | apply Kd.R_alloc | apply Kd.R_drewN | apply Kd.R_drew)); exact HO443.out))) (Kd.R_lt (by (with_reducible repeat (first | apply Kd.R_alloc | apply Kd.R_drewN | apply Kd.R_drew)); exact HO450.out))) (g := gb447) (o := .cells #[.int .i64 t444, .int .i64 t445] 25 (0, 0)) (by (with_reducible repeat (first | refine blk_drewN ?_ _ | refine blk_drew ?_ | refine blk_alloc ?_ _)); exact BK447.out)) (below_size (by repeat (first | (with_reducible first | exact HB.out | apply below_alloc | apply pw_below_drewN | apply below_drew1 | refine below_set ?_ GE447.out) | exact HB.out)))); have n4_ := Aside0.mk (blk_below (g := gb447) (o := .cells #[.int .i64 t444, .int .i64 t445] 25 (0, 0)) (by (with_reducible repeat (first | refine blk_drewN ?_ _ | refine blk_drew ?_ | refine blk_alloc ?_ _)); exact BK447.out) hb); have n5_ := Aside0.mk (below_step (by repeat (first | (with_reducible first | exact HB.out | apply below_alloc | apply pw_below_drewN | apply below_drew1 | refine below_set ?_ GE447.out) | exact HB.out)) hb); clear HO440; clear HO443; clear HO450; clear BK447; clear HB; have HO440 := n0_; have HO443 := n1_; have HO450 := n2_; have HO453 := n3_; have BK447 := n4_; have HB := n5_; clear n0_ n1_ n2_ n3_ n4_ n5_; (try clear hb); (try clear hb2); (try clear hk); (try clear hi); (try clear ho0)) | ((with_reducible refine gate_dst (N := 9) rfl ?_); refine box_event ?hg (N := 9) ?hd (cs := #[.int .i64 0, .int .i64 0]) (t := 25) ?hr ?_; (case hd => rfl); (case hg => rfl); (case hr => first | (go_simp; done) | (go_simp; rfl)); intro gb457 hg w17 hbox hb; have n0_ := Aside0.mk (Kd.R_below (Kd.R_elderB (by (with_reducible repeat (first | apply Kd.R_alloc | apply Kd.R_drewN | apply Kd.R_drew)); exact HO440.out) gb457 (Nat.le_of_eq hg.symm)) hb); have n1_ := Aside0.mk (Kd.R_below (Kd.R_elderB (by (with_reducible repeat (first | apply Kd.R_alloc | apply Kd.R_drewN | apply Kd.R_drew)); exact HO443.out) gb457 (Nat.le_of_eq hg.symm)) hb); have n2_ := Aside0.mk (Kd.R_below (Kd.R_elderB (by (with_reducible repeat (first | apply Kd.R_alloc | apply Kd.R_drewN | apply Kd.R_drew)); exact HO450.out) gb457 (Nat.le_of_eq hg.symm)) hb); have n3_ := Aside0.mk (Kd.R_below (Kd.R_elderB (by (with_reducible repeat (first | apply Kd.R_alloc | apply Kd.R_drewN | apply Kd.R_drew)); exact HO453.out) gb457 (Nat.le_of_eq hg.symm)) hb); have n4_ := Aside0.mk (blk_below (g := gb447) (o := .cells #[.int .i64 t444, .int .i64 t445] 25 (0, 0)) (by (with_reducible repeat (first | refine blk_drewN ?_ _ | refine blk_drew ?_ | refine blk_alloc ?_ _)); exact BK447.out) hb); have n5_ := Aside0.mk (below_step (by repeat (first | (with_reducible first | exact HB.out | apply below_alloc | apply pw_below_drewN | apply below_drew1 | refine below_set ?_ GE447.out) | exact HB.out)) hb); have n6_ := Aside0.mk (hbox); have n7_ := Aside0.mk ((by rw [hg]; exact (below_size (by repeat (first | (with_reducible first | exact HB.out | apply below_alloc | apply pw_below_drewN | apply below_drew1 | refine below_set ?_ GE447.out) | exact HB.out))) : w.heap.size ≤ gb457)); have n8_ := Aside0.mk ((by rw [hg]; exact (below_size (by repeat (first | (with_reducible first | exact HB.out | apply below_alloc | apply pw_below_drewN | apply below_drew1 | refine below_set ?_ GE447.out) | exact HB.out))) : w.heap.size ≤ gb457)); have n9_ := Aside0.mk ((by rw [hg]; exact Nat.ne_of_lt (blk_lt (g := gb447) (o := .cells #[.int .i64 t444, .int .i64 t445] 25 (0, 0)) (by (with_reducible repeat (first | refine blk_drewN ?_ _ | refine blk_drew ?_ | refine blk_alloc ?_ _)); exact BK447.out)) : gb447 ≠ gb457)); have n10_ := Aside0.mk ((by rw [hg]; exact Nat.ne_of_gt (blk_lt (g := gb447) (o := .cells #[.int .i64 t444, .int .i64 t445] 25 (0, 0)) (by (with_reducible repeat (first | refine blk_drewN ?_ _ | refine blk_drew ?_ | refine blk_alloc ?_ _)); exact BK447.out)) : gb457 ≠ gb447)); clear HO440; clear HO443; clear HO450; clear HO453; clear BK447; clear HB; have HO440 := n0_; have HO443 := n1_; have HO450 := n2_; have HO453 := n3_; have BK447 := n4_; have HB := n5_; have BK457 := n6_; have GW457 := n7_; have GE457 := n8_; have NB447_457 := n9_; have NB457_447 := n10_; clear n0_ n1_ n2_ n3_ n4_ n5_ n6_ n7_ n8_ n9_ n10_; clear hb hbox hg; have hnb18 := NB457_447.out; have hnc18 := NB447_457.out; have hcz19_0 : w17.cell? ⟨gb457, 0, none⟩ = some (.int .i64 0) := (blk_cell BK457.out 0).trans rfl; have hcz19_1 : w17.cell? ⟨gb457, 1, none⟩ = some (.int .i64 0) := (blk_cell BK457.out 1).trans rfl; have hfz19_0 := blk_frozen BK457.out 0; have hfz19_1 := blk_frozen BK457.out 1))
  (try simp only [Act.put, List.setIfInBounds_toArray, List.set_cons_zero, List.set_cons_succ])
  go_cut [51] (fun v51 wc => ∃ (kq : Nat) (x51_7 : Bool), v51 = .bool x51_7 ∧ Aside0 (laws_FnExactHeapTake.j0 kq l0 t441 t446 t448 t451 t456 x51_7 t444 t445 t454 t455 = some r) ∧ Aside0 (kq ≤ k) ∧ Aside0 (Kd.R k25 25 wc w.heap.size (fun k_ => some k_ ≠ ((.slice Ao15 t448.length co15) : Value).ownBlock ∧ some k_ ≠ (v452 : Value).ownBlock ∧ k_ ≠ gb447 ∧ k_ ≠ gb457) v442 t441) ∧ Aside0 (Kd.R k25 25 wc w.heap.size (fun k_ => some k_ ≠ (v442 : Value).ownBlock ∧ some k_ ≠ (v452 : Value).ownBlock ∧ k_ ≠ gb447 ∧ k_ ≠ gb457) (.slice Ao15 t448.length co15) t448) ∧ Aside0 (Kd.R k25 25 wc w.heap.size (fun k_ => some k_ ≠ (v442 : Value).ownBlock ∧ some k_ ≠ ((.slice Ao15 t448.length co15) : Value).ownBlock ∧ k_ ≠ gb447 ∧ k_ ≠ gb457) v452 t451) ∧ Aside0 (wc.heap[gb447]? = some (.cells #[.int .i64 t444, .int .i64 t445] 25 (0, 0))) ∧ Aside0 (wc.heap[gb457]? = some (.cells #[.int .i64 t454, .int .i64 t455] 25 (0, 0))) ∧ Aside0 (Below w.heap.size w wc))
  case first =>
   have H := HC8.out
   clear HC8
   replace H := Option.bind_eq_some_iff.mp H
   obtain ⟨t458, A200, H⟩ := H
   replace H : (if t458 = true then ((laws_eqTimer.f t454 t455 t444 t445).bind fun t459 => (if t459 = true then (laws_FnExactHeapTake.j0 k l0 t441 t446 t448 t451 t456 (t456 != t446) t444 t445 t454 t455) else (laws_FnExactHeapTake.j0 k l0 t441 t446 t448 t451 t456 true t444 t445 t454 t455))) else (laws_FnExactHeapTake.j0 k l0 t441 t446 t448 t451 t456 true t444 t445 t454 t455)) = some r := H
   have A20 := Aside0.mk A200
   clear A200
   by_cases c21 : t458 = true
   ·
    subst c21
    have H1 : ((laws_eqTimer.f t454 t455 t444 t445).bind fun t459 => (if t459 = true then (laws_FnExactHeapTake.j0 k l0 t441 t446 t448 t451 t456 (t456 != t446) t444 t445 t454 t455) else (laws_FnExactHeapTake.j0 k l0 t441 t446 t448 t451 t456 true t444 t445 t454 t455))) = some r := by rw [if_pos rfl] at H; exact H
    clear H
    have H := H1
    clear H1
    replace H := Option.bind_eq_some_iff.mp H
    obtain ⟨t459, A220, H⟩ := H
    replace H : (if t459 = true then (laws_FnExactHeapTake.j0 k l0 t441 t446 t448 t451 t456 (t456 != t446) t444 t445 t454 t455) else (laws_FnExactHeapTake.j0 k l0 t441 t446 t448 t451 t456 true t444 t445 t454 t455)) = some r := H
    have A22 := Aside0.mk A220
    clear A220
    by_cases c23 : t459 = true
    ·
     subst c23
     have H1 : (laws_FnExactHeapTake.j0 k l0 t441 t446 t448 t451 t456 (t456 != t446) t444 t445 t454 t455) = some r := by rw [if_pos rfl] at H; exact H
     clear H
     have H := H1
     clear H1
     have H' := Aside0.mk H
     clear H
     obtain ⟨Ao24, co24, eo24⟩ := Kd.R_slice HO453.out
     subst eo24
     obtain ⟨Ao25, co25, eo25⟩ := Kd.R_slice HO443.out
     subst eo25
     go_wp2_with (first | ((with_reducible refine gate_callee (f := 21) rfl ?_); refine goesL_ (some 39) rfl rfl Try.func21 (by kernel_rfl) rfl #[.slice Ao24 t451.length co24, .slice Ao25 t441.length co25] rfl (by (try simp only [List.map_toArray, List.map_cons, List.map_nil]); first | done | rfl | (simp only [List.length_drop, List.length_take]; rfl)) ?_; (with_reducible refine (laws_eqTimerS.calls k _ _ t451 _ _ t441 true _ ?side1 ?side2 ?side3 ?side4 A20.out).mono ?_); (case side1 => refine (Kd.R_reads' (e := 25) (base := w.heap.size) (ok := fun k_ => (((((True ∧ some k_ ≠ (.slice Ao10 t438.length co10 : Value).ownBlock) ∧ some k_ ≠ (.slice Ao25 t441.length co25 : Value).ownBlock) ∧ some k_ ≠ (.slice Ao15 t448.length co15 : Value).ownBlock) ∧ k_ ≠ gb447) ∧ k_ ≠ gb457)) (n := t451.length) (c := co24) ?_).2.2; exact (by (with_reducible repeat (first | apply Kd.R_alloc | apply Kd.R_drewN | apply Kd.R_drew)); exact (Kd.R_mono (Kd.R_far (p := ⟨gb457, 1, none⟩) (Kd.R_far (p := ⟨gb457, 0, none⟩) (Kd.R_mono HO453.out (fun k_ hk => (⟨hk, hk.2⟩ : _ ∧ k_ ≠ gb457))) (fun _ hk => hk.2) (.int .i64 t454)) (fun _ hk => hk.2) (.int .i64 t455)) (fun _ h_ => h_.1)))); (case side2 => exact (Kd.R_reads' HO453.out).2.1); (case side3 => refine (Kd.R_reads' (e := 25) (base := w.heap.size) (ok := fun k_ => (((((True ∧ some k_ ≠ (.slice Ao10 t438.length co10 : Value).ownBlock) ∧ k_ ≠ gb447) ∧ some k_ ≠ (.slice Ao15 t448.length co15 : Value).ownBlock) ∧ some k_ ≠ (.slice Ao24 t451.length co24 : Value).ownBlock) ∧ k_ ≠ gb457)) (n := t441.length) (c := co25) ?_).2.2; exact (by (with_reducible repeat (first | apply Kd.R_alloc | apply Kd.R_drewN | apply Kd.R_drew)); exact (Kd.R_mono (Kd.R_far (p := ⟨gb457, 1, none⟩) (Kd.R_far (p := ⟨gb457, 0, none⟩) (Kd.R_mono HO443.out (fun k_ hk => (⟨hk, hk.2⟩ : _ ∧ k_ ≠ gb457))) (fun _ hk => hk.2) (.int .i64 t454)) (fun _ hk => hk.2) (.int .i64 t455)) (fun _ h_ => h_.1)))); (case side4 => exact (Kd.R_reads' HO443.out).2.1); rintro e w26 ⟨rfl, hb⟩; refine ⟨_, rfl, ?_⟩; have n0_ := Aside0.mk (Kd.R_below (by (with_reducible repeat (first | apply Kd.R_alloc | apply Kd.R_drewN | apply Kd.R_drew)); exact (Kd.R_mono (Kd.R_far (p := ⟨gb457, 1, none⟩) (Kd.R_far (p := ⟨gb457, 0, none⟩) (Kd.R_mono HO440.out (fun k_ hk => (⟨hk, hk.2⟩ : _ ∧ k_ ≠ gb457))) (fun _ hk => hk.2) (.int .i64 t454)) (fun _ hk => hk.2) (.int .i64 t455)) (fun _ h_ => h_.1))) hb); have n1_ := Aside0.mk (Kd.R_below (by (with_reducible repeat (first | apply Kd.R_alloc | apply Kd.R_drewN | apply Kd.R_drew)); exact (Kd.R_mono (Kd.R_far (p := ⟨gb457, 1, none⟩) (Kd.R_far (p := ⟨gb457, 0, none⟩) (Kd.R_mono HO443.out (fun k_ hk => (⟨hk, hk.2⟩ : _ ∧ k_ ≠ gb457))) (fun _ hk => hk.2) (.int .i64 t454)) (fun _ hk => hk.2) (.int .i64 t455)) (fun _ h_ => h_.1))) hb); have n2_ := Aside0.mk (Kd.R_below (by (with_reducible repeat (first | apply Kd.R_alloc | apply Kd.R_drewN | apply Kd.R_drew)); exact (Kd.R_mono (Kd.R_far (p := ⟨gb457, 1, none⟩) (Kd.R_far (p := ⟨gb457, 0, none⟩) (Kd.R_mono HO450.out (fun k_ hk => (⟨hk, hk.2⟩ : _ ∧ k_ ≠ gb457))) (fun _ hk => hk.2) (.int .i64 t454)) (fun _ hk => hk.2) (.int .i64 t455)) (fun _ h_ => h_.1))) hb); have n3_ := Aside0.mk (Kd.R_below (by (with_reducible repeat (first | apply Kd.R_alloc | apply Kd.R_drewN | apply Kd.R_drew)); exact (Kd.R_mono (Kd.R_far (p := ⟨gb457, 1, none⟩) (Kd.R_far (p := ⟨gb457, 0, none⟩) (Kd.R_mono HO453.out (fun k_ hk => (⟨hk, hk.2⟩ : _ ∧ k_ ≠ gb457))) (fun _ hk => hk.2) (.int .i64 t454)) (fun _ hk => hk.2) (.int .i64 t455)) (fun _ h_ => h_.1))) hb); have n4_ := Aside0.mk (blk_below (g := gb447) (o := .cells #[.int .i64 t444, .int .i64 t445] 25 (0, 0)) (by (with_reducible repeat (first | refine blk_drewN ?_ _ | refine blk_drew ?_ | refine blk_alloc ?_ _)); refine blk_far ?_ NB447_457.out _; (with_reducible repeat (first | refine blk_drewN ?_ _ | refine blk_drew ?_ | refine blk_alloc ?_ _)); refine blk_far ?_ NB447_457.out _; (with_reducible repeat (first | refine blk_drewN ?_ _ | refine blk_drew ?_ | refine blk_alloc ?_ _)); exact BK447.out) hb); have n5_ := Aside0.mk (blk_below (g := gb457) (o := .cells #[.int .i64 t454, .int .i64 t455] 25 (0, 0)) (by (with_reducible repeat (first | refine blk_drewN ?_ _ | refine blk_drew ?_ | refine blk_alloc ?_ _)); refine blk_put (cs := #[.int .i64 t454, .int .i64 0]) ?_ 1 _ rfl; (with_reducible repeat (first | refine blk_drewN ?_ _ | refine blk_drew ?_ | refine blk_alloc ?_ _)); refine blk_put (cs := #[.int .i64 0, .int .i64 0]) ?_ 0 _ rfl; (with_reducible repeat (first | refine blk_drewN ?_ _ | refine blk_drew ?_ | refine blk_alloc ?_ _)); exact BK457.out) hb); have n6_ := Aside0.mk (below_step (by repeat (first | (with_reducible first | exact HB.out | apply below_alloc | apply pw_below_drewN | apply below_drew1 | refine below_set ?_ GE447.out | refine below_set ?_ GE457.out) | exact HB.out)) hb); clear HO440; clear HO443; clear HO450; clear HO453; clear BK447; clear BK457; clear HB; have HO440 := n0_; have HO443 := n1_; have HO450 := n2_; have HO453 := n3_; have BK447 := n4_; have BK457 := n5_; have HB := n6_; clear n0_ n1_ n2_ n3_ n4_ n5_ n6_; (try clear hb); (try clear hb2); (try clear hk); (try clear hi); have hnb27 := NB457_447.out; have hnc27 := NB447_457.out; have hcz28_0 : w26.cell? ⟨gb457, 0, none⟩ = some (.int .i64 t454) := (blk_cell BK457.out 0).trans rfl; have hcz28_1 : w26.cell? ⟨gb457, 1, none⟩ = some (.int .i64 t455) := (blk_cell BK457.out 1).trans rfl; have hfz28_0 := blk_frozen BK457.out 0; have hfz28_1 := blk_frozen BK457.out 1; have hcz29_0 : w26.cell? ⟨gb447, 0, none⟩ = some (.int .i64 t444) := (blk_cell BK447.out 0).trans rfl; have hcz29_1 : w26.cell? ⟨gb447, 1, none⟩ = some (.int .i64 t445) := (blk_cell BK447.out 1).trans rfl; have hfz29_0 := blk_frozen BK447.out 0; have hfz29_1 := blk_frozen BK447.out 1) | (go_at_call 35; (with_reducible refine (laws_eqTimer.calls t454 t455 t444 t445 true _ A22.out).mono ?_); rintro e w30 ⟨rfl, hb⟩; have n0_ := Aside0.mk (Kd.R_below (by (with_reducible repeat (first | apply Kd.R_alloc | apply Kd.R_drewN | apply Kd.R_drew)); exact HO440.out) hb); have n1_ := Aside0.mk (Kd.R_below (by (with_reducible repeat (first | apply Kd.R_alloc | apply Kd.R_drewN | apply Kd.R_drew)); exact HO443.out) hb); have n2_ := Aside0.mk (Kd.R_below (by (with_reducible repeat (first | apply Kd.R_alloc | apply Kd.R_drewN | apply Kd.R_drew)); exact HO450.out) hb); have n3_ := Aside0.mk (Kd.R_below (by (with_reducible repeat (first | apply Kd.R_alloc | apply Kd.R_drewN | apply Kd.R_drew)); exact HO453.out) hb); have n4_ := Aside0.mk (blk_below (g := gb447) (o := .cells #[.int .i64 t444, .int .i64 t445] 25 (0, 0)) (by (with_reducible repeat (first | refine blk_drewN ?_ _ | refine blk_drew ?_ | refine blk_alloc ?_ _)); exact BK447.out) hb); have n5_ := Aside0.mk (blk_below (g := gb457) (o := .cells #[.int .i64 t454, .int .i64 t455] 25 (0, 0)) (by (with_reducible repeat (first | refine blk_drewN ?_ _ | refine blk_drew ?_ | refine blk_alloc ?_ _)); exact BK457.out) hb); have n6_ := Aside0.mk (below_step (by repeat (first | (with_reducible first | exact HB.out | apply below_alloc | apply pw_below_drewN | apply below_drew1 | refine below_set ?_ GE447.out | refine below_set ?_ GE457.out) | exact HB.out)) hb); clear HO440; clear HO443; clear HO450; clear HO453; clear BK447; clear BK457; clear HB; have HO440 := n0_; have HO443 := n1_; have HO450 := n2_; have HO453 := n3_; have BK447 := n4_; have BK457 := n5_; have HB := n6_; clear n0_ n1_ n2_ n3_ n4_ n5_ n6_; (try clear hb); (try clear hb2); (try clear hk); (try clear hi)))
     go_meet
     case rel => exact ⟨_, ((t456 != t446)), (by first | rfl | (simp; done) | (simp [*]; done)), H', ⟨by first | omega | exact Nat.le_refl _⟩, ⟨by (with_reducible repeat (first | apply Kd.R_alloc | apply Kd.R_drewN | apply Kd.R_drew)); exact Kd.R_mono HO443.out (fun _ hk => ⟨hk.1.1.2, ⟨hk.1.2, ⟨hk.1.1.1.2, hk.2⟩⟩⟩)⟩, ⟨by (with_reducible repeat (first | apply Kd.R_alloc | apply Kd.R_drewN | apply Kd.R_drew)); exact Kd.R_mono HO450.out (fun _ hk => ⟨hk.1.1.1.2, ⟨hk.1.2, ⟨hk.1.1.2, hk.2⟩⟩⟩)⟩, ⟨by (with_reducible repeat (first | apply Kd.R_alloc | apply Kd.R_drewN | apply Kd.R_drew)); exact Kd.R_mono HO453.out (fun _ hk => ⟨hk.1.1.1.2, ⟨hk.1.1.2, ⟨hk.1.2, hk.2⟩⟩⟩)⟩, ⟨by (with_reducible repeat (first | refine blk_drewN ?_ _ | refine blk_drew ?_ | refine blk_alloc ?_ _)); exact BK447.out⟩, ⟨by (with_reducible repeat (first | refine blk_drewN ?_ _ | refine blk_drew ?_ | refine blk_alloc ?_ _)); exact BK457.out⟩, ⟨by repeat (first | (with_reducible first | exact HB.out | apply below_alloc | apply pw_below_drewN | apply below_drew1 | refine below_set ?_ GE447.out | refine below_set ?_ GE457.out) | exact HB.out)⟩⟩
    ·
     replace c23 := Bool.eq_false_iff.mpr c23
     subst c23
     have H1 : (laws_FnExactHeapTake.j0 k l0 t441 t446 t448 t451 t456 true t444 t445 t454 t455) = some r := by rw [if_neg (show ¬ (false = true) by decide)] at H; exact H
     clear H
     have H := H1
     clear H1
     have H' := Aside0.mk H
     clear H
     obtain ⟨Ao31, co31, eo31⟩ := Kd.R_slice HO453.out
     subst eo31
     obtain ⟨Ao32, co32, eo32⟩ := Kd.R_slice HO443.out
     subst eo32
     go_wp2_with (first | ((with_reducible refine gate_callee (f := 21) rfl ?_); refine goesL_ (some 39) rfl rfl Try.func21 (by kernel_rfl) rfl #[.slice Ao31 t451.length co31, .slice Ao32 t441.length co32] rfl (by (try simp only [List.map_toArray, List.map_cons, List.map_nil]); first | done | rfl | (simp only [List.length_drop, List.length_take]; rfl)) ?_; (with_reducible refine (laws_eqTimerS.calls k _ _ t451 _ _ t441 true _ ?side1 ?side2 ?side3 ?side4 A20.out).mono ?_); (case side1 => refine (Kd.R_reads' (e := 25) (base := w.heap.size) (ok := fun k_ => (((((True ∧ some k_ ≠ (.slice Ao10 t438.length co10 : Value).ownBlock) ∧ some k_ ≠ (.slice Ao32 t441.length co32 : Value).ownBlock) ∧ some k_ ≠ (.slice Ao15 t448.length co15 : Value).ownBlock) ∧ k_ ≠ gb447) ∧ k_ ≠ gb457)) (n := t451.length) (c := co31) ?_).2.2; exact (by (with_reducible repeat (first | apply Kd.R_alloc | apply Kd.R_drewN | apply Kd.R_drew)); exact (Kd.R_mono (Kd.R_far (p := ⟨gb457, 1, none⟩) (Kd.R_far (p := ⟨gb457, 0, none⟩) (Kd.R_mono HO453.out (fun k_ hk => (⟨hk, hk.2⟩ : _ ∧ k_ ≠ gb457))) (fun _ hk => hk.2) (.int .i64 t454)) (fun _ hk => hk.2) (.int .i64 t455)) (fun _ h_ => h_.1)))); (case side2 => exact (Kd.R_reads' HO453.out).2.1); (case side3 => refine (Kd.R_reads' (e := 25) (base := w.heap.size) (ok := fun k_ => (((((True ∧ some k_ ≠ (.slice Ao10 t438.length co10 : Value).ownBlock) ∧ k_ ≠ gb447) ∧ some k_ ≠ (.slice Ao15 t448.length co15 : Value).ownBlock) ∧ some k_ ≠ (.slice Ao31 t451.length co31 : Value).ownBlock) ∧ k_ ≠ gb457)) (n := t441.length) (c := co32) ?_).2.2; exact (by (with_reducible repeat (first | apply Kd.R_alloc | apply Kd.R_drewN | apply Kd.R_drew)); exact (Kd.R_mono (Kd.R_far (p := ⟨gb457, 1, none⟩) (Kd.R_far (p := ⟨gb457, 0, none⟩) (Kd.R_mono HO443.out (fun k_ hk => (⟨hk, hk.2⟩ : _ ∧ k_ ≠ gb457))) (fun _ hk => hk.2) (.int .i64 t454)) (fun _ hk => hk.2) (.int .i64 t455)) (fun _ h_ => h_.1)))); (case side4 => exact (Kd.R_reads' HO443.out).2.1); rintro e w33 ⟨rfl, hb⟩; refine ⟨_, rfl, ?_⟩; have n0_ := Aside0.mk (Kd.R_below (by (with_reducible repeat (first | apply Kd.R_alloc | apply Kd.R_drewN | apply Kd.R_drew)); exact (Kd.R_mono (Kd.R_far (p := ⟨gb457, 1, none⟩) (Kd.R_far (p := ⟨gb457, 0, none⟩) (Kd.R_mono HO440.out (fun k_ hk => (⟨hk, hk.2⟩ : _ ∧ k_ ≠ gb457))) (fun _ hk => hk.2) (.int .i64 t454)) (fun _ hk => hk.2) (.int .i64 t455)) (fun _ h_ => h_.1))) hb); have n1_ := Aside0.mk (Kd.R_below (by (with_reducible repeat (first | apply Kd.R_alloc | apply Kd.R_drewN | apply Kd.R_drew)); exact (Kd.R_mono (Kd.R_far (p := ⟨gb457, 1, none⟩) (Kd.R_far (p := ⟨gb457, 0, none⟩) (Kd.R_mono HO443.out (fun k_ hk => (⟨hk, hk.2⟩ : _ ∧ k_ ≠ gb457))) (fun _ hk => hk.2) (.int .i64 t454)) (fun _ hk => hk.2) (.int .i64 t455)) (fun _ h_ => h_.1))) hb); have n2_ := Aside0.mk (Kd.R_below (by (with_reducible repeat (first | apply Kd.R_alloc | apply Kd.R_drewN | apply Kd.R_drew)); exact (Kd.R_mono (Kd.R_far (p := ⟨gb457, 1, none⟩) (Kd.R_far (p := ⟨gb457, 0, none⟩) (Kd.R_mono HO450.out (fun k_ hk => (⟨hk, hk.2⟩ : _ ∧ k_ ≠ gb457))) (fun _ hk => hk.2) (.int .i64 t454)) (fun _ hk => hk.2) (.int .i64 t455)) (fun _ h_ => h_.1))) hb); have n3_ := Aside0.mk (Kd.R_below (by (with_reducible repeat (first | apply Kd.R_alloc | apply Kd.R_drewN | apply Kd.R_drew)); exact (Kd.R_mono (Kd.R_far (p := ⟨gb457, 1, none⟩) (Kd.R_far (p := ⟨gb457, 0, none⟩) (Kd.R_mono HO453.out (fun k_ hk => (⟨hk, hk.2⟩ : _ ∧ k_ ≠ gb457))) (fun _ hk => hk.2) (.int .i64 t454)) (fun _ hk => hk.2) (.int .i64 t455)) (fun _ h_ => h_.1))) hb); have n4_ := Aside0.mk (blk_below (g := gb447) (o := .cells #[.int .i64 t444, .int .i64 t445] 25 (0, 0)) (by (with_reducible repeat (first | refine blk_drewN ?_ _ | refine blk_drew ?_ | refine blk_alloc ?_ _)); refine blk_far ?_ NB447_457.out _; (with_reducible repeat (first | refine blk_drewN ?_ _ | refine blk_drew ?_ | refine blk_alloc ?_ _)); refine blk_far ?_ NB447_457.out _; (with_reducible repeat (first | refine blk_drewN ?_ _ | refine blk_drew ?_ | refine blk_alloc ?_ _)); exact BK447.out) hb); have n5_ := Aside0.mk (blk_below (g := gb457) (o := .cells #[.int .i64 t454, .int .i64 t455] 25 (0, 0)) (by (with_reducible repeat (first | refine blk_drewN ?_ _ | refine blk_drew ?_ | refine blk_alloc ?_ _)); refine blk_put (cs := #[.int .i64 t454, .int .i64 0]) ?_ 1 _ rfl; (with_reducible repeat (first | refine blk_drewN ?_ _ | refine blk_drew ?_ | refine blk_alloc ?_ _)); refine blk_put (cs := #[.int .i64 0, .int .i64 0]) ?_ 0 _ rfl; (with_reducible repeat (first | refine blk_drewN ?_ _ | refine blk_drew ?_ | refine blk_alloc ?_ _)); exact BK457.out) hb); have n6_ := Aside0.mk (below_step (by repeat (first | (with_reducible first | exact HB.out | apply below_alloc | apply pw_below_drewN | apply below_drew1 | refine below_set ?_ GE447.out | refine below_set ?_ GE457.out) | exact HB.out)) hb); clear HO440; clear HO443; clear HO450; clear HO453; clear BK447; clear BK457; clear HB; have HO440 := n0_; have HO443 := n1_; have HO450 := n2_; have HO453 := n3_; have BK447 := n4_; have BK457 := n5_; have HB := n6_; clear n0_ n1_ n2_ n3_ n4_ n5_ n6_; (try clear hb); (try clear hb2); (try clear hk); (try clear hi); have hnb34 := NB457_447.out; have hnc34 := NB447_457.out; have hcz35_0 : w33.cell? ⟨gb457, 0, none⟩ = some (.int .i64 t454) := (blk_cell BK457.out 0).trans rfl; have hcz35_1 : w33.cell? ⟨gb457, 1, none⟩ = some (.int .i64 t455) := (blk_cell BK457.out 1).trans rfl; have hfz35_0 := blk_frozen BK457.out 0; have hfz35_1 := blk_frozen BK457.out 1; have hcz36_0 : w33.cell? ⟨gb447, 0, none⟩ = some (.int .i64 t444) := (blk_cell BK447.out 0).trans rfl; have hcz36_1 : w33.cell? ⟨gb447, 1, none⟩ = some (.int .i64 t445) := (blk_cell BK447.out 1).trans rfl; have hfz36_0 := blk_frozen BK447.out 0; have hfz36_1 := blk_frozen BK447.out 1) | (go_at_call 35; (with_reducible refine (laws_eqTimer.calls t454 t455 t444 t445 false _ A22.out).mono ?_); rintro e w37 ⟨rfl, hb⟩; have n0_ := Aside0.mk (Kd.R_below (by (with_reducible repeat (first | apply Kd.R_alloc | apply Kd.R_drewN | apply Kd.R_drew)); exact HO440.out) hb); have n1_ := Aside0.mk (Kd.R_below (by (with_reducible repeat (first | apply Kd.R_alloc | apply Kd.R_drewN | apply Kd.R_drew)); exact HO443.out) hb); have n2_ := Aside0.mk (Kd.R_below (by (with_reducible repeat (first | apply Kd.R_alloc | apply Kd.R_drewN | apply Kd.R_drew)); exact HO450.out) hb); have n3_ := Aside0.mk (Kd.R_below (by (with_reducible repeat (first | apply Kd.R_alloc | apply Kd.R_drewN | apply Kd.R_drew)); exact HO453.out) hb); have n4_ := Aside0.mk (blk_below (g := gb447) (o := .cells #[.int .i64 t444, .int .i64 t445] 25 (0, 0)) (by (with_reducible repeat (first | refine blk_drewN ?_ _ | refine blk_drew ?_ | refine blk_alloc ?_ _)); exact BK447.out) hb); have n5_ := Aside0.mk (blk_below (g := gb457) (o := .cells #[.int .i64 t454, .int .i64 t455] 25 (0, 0)) (by (with_reducible repeat (first | refine blk_drewN ?_ _ | refine blk_drew ?_ | refine blk_alloc ?_ _)); exact BK457.out) hb); have n6_ := Aside0.mk (below_step (by repeat (first | (with_reducible first | exact HB.out | apply below_alloc | apply pw_below_drewN | apply below_drew1 | refine below_set ?_ GE447.out | refine below_set ?_ GE457.out) | exact HB.out)) hb); clear HO440; clear HO443; clear HO450; clear HO453; clear BK447; clear BK457; clear HB; have HO440 := n0_; have HO443 := n1_; have HO450 := n2_; have HO453 := n3_; have BK447 := n4_; have BK457 := n5_; have HB := n6_; clear n0_ n1_ n2_ n3_ n4_ n5_ n6_; (try clear hb); (try clear hb2); (try clear hk); (try clear hi)))
     go_meet
     case rel => exact ⟨_, (true), (by first | rfl | (simp; done) | (simp [*]; done)), H', ⟨by first | omega | exact Nat.le_refl _⟩, ⟨by (with_reducible repeat (first | apply Kd.R_alloc | apply Kd.R_drewN | apply Kd.R_drew)); exact Kd.R_mono HO443.out (fun _ hk => ⟨hk.1.1.2, ⟨hk.1.2, ⟨hk.1.1.1.2, hk.2⟩⟩⟩)⟩, ⟨by (with_reducible repeat (first | apply Kd.R_alloc | apply Kd.R_drewN | apply Kd.R_drew)); exact Kd.R_mono HO450.out (fun _ hk => ⟨hk.1.1.1.2, ⟨hk.1.2, ⟨hk.1.1.2, hk.2⟩⟩⟩)⟩, ⟨by (with_reducible repeat (first | apply Kd.R_alloc | apply Kd.R_drewN | apply Kd.R_drew)); exact Kd.R_mono HO453.out (fun _ hk => ⟨hk.1.1.1.2, ⟨hk.1.1.2, ⟨hk.1.2, hk.2⟩⟩⟩)⟩, ⟨by (with_reducible repeat (first | refine blk_drewN ?_ _ | refine blk_drew ?_ | refine blk_alloc ?_ _)); exact BK447.out⟩, ⟨by (with_reducible repeat (first | refine blk_drewN ?_ _ | refine blk_drew ?_ | refine blk_alloc ?_ _)); exact BK457.out⟩, ⟨by repeat (first | (with_reducible first | exact HB.out | apply below_alloc | apply pw_below_drewN | apply below_drew1 | refine below_set ?_ GE447.out | refine below_set ?_ GE457.out) | exact HB.out)⟩⟩
   ·
    replace c21 := Bool.eq_false_iff.mpr c21
    subst c21
    have H1 : (laws_FnExactHeapTake.j0 k l0 t441 t446 t448 t451 t456 true t444 t445 t454 t455) = some r := by rw [if_neg (show ¬ (false = true) by decide)] at H; exact H
    clear H
    have H := H1
    clear H1
    have H' := Aside0.mk H
    clear H
    obtain ⟨Ao38, co38, eo38⟩ := Kd.R_slice HO453.out
    subst eo38
    obtain ⟨Ao39, co39, eo39⟩ := Kd.R_slice HO443.out
    subst eo39
    go_wp2_with (first | ((with_reducible refine gate_callee (f := 21) rfl ?_); refine goesL_ (some 39) rfl rfl Try.func21 (by kernel_rfl) rfl #[.slice Ao38 t451.length co38, .slice Ao39 t441.length co39] rfl (by (try simp only [List.map_toArray, List.map_cons, List.map_nil]); first | done | rfl | (simp only [List.length_drop, List.length_take]; rfl)) ?_; (with_reducible refine (laws_eqTimerS.calls k _ _ t451 _ _ t441 false _ ?side1 ?side2 ?side3 ?side4 A20.out).mono ?_); (case side1 => refine (Kd.R_reads' (e := 25) (base := w.heap.size) (ok := fun k_ => (((((True ∧ some k_ ≠ (.slice Ao10 t438.length co10 : Value).ownBlock) ∧ some k_ ≠ (.slice Ao39 t441.length co39 : Value).ownBlock) ∧ some k_ ≠ (.slice Ao15 t448.length co15 : Value).ownBlock) ∧ k_ ≠ gb447) ∧ k_ ≠ gb457)) (n := t451.length) (c := co38) ?_).2.2; exact (by (with_reducible repeat (first | apply Kd.R_alloc | apply Kd.R_drewN | apply Kd.R_drew)); exact (Kd.R_mono (Kd.R_far (p := ⟨gb457, 1, none⟩) (Kd.R_far (p := ⟨gb457, 0, none⟩) (Kd.R_mono HO453.out (fun k_ hk => (⟨hk, hk.2⟩ : _ ∧ k_ ≠ gb457))) (fun _ hk => hk.2) (.int .i64 t454)) (fun _ hk => hk.2) (.int .i64 t455)) (fun _ h_ => h_.1)))); (case side2 => exact (Kd.R_reads' HO453.out).2.1); (case side3 => refine (Kd.R_reads' (e := 25) (base := w.heap.size) (ok := fun k_ => (((((True ∧ some k_ ≠ (.slice Ao10 t438.length co10 : Value).ownBlock) ∧ k_ ≠ gb447) ∧ some k_ ≠ (.slice Ao15 t448.length co15 : Value).ownBlock) ∧ some k_ ≠ (.slice Ao38 t451.length co38 : Value).ownBlock) ∧ k_ ≠ gb457)) (n := t441.length) (c := co39) ?_).2.2; exact (by (with_reducible repeat (first | apply Kd.R_alloc | apply Kd.R_drewN | apply Kd.R_drew)); exact (Kd.R_mono (Kd.R_far (p := ⟨gb457, 1, none⟩) (Kd.R_far (p := ⟨gb457, 0, none⟩) (Kd.R_mono HO443.out (fun k_ hk => (⟨hk, hk.2⟩ : _ ∧ k_ ≠ gb457))) (fun _ hk => hk.2) (.int .i64 t454)) (fun _ hk => hk.2) (.int .i64 t455)) (fun _ h_ => h_.1)))); (case side4 => exact (Kd.R_reads' HO443.out).2.1); rintro e w40 ⟨rfl, hb⟩; refine ⟨_, rfl, ?_⟩; have n0_ := Aside0.mk (Kd.R_below (by (with_reducible repeat (first | apply Kd.R_alloc | apply Kd.R_drewN | apply Kd.R_drew)); exact (Kd.R_mono (Kd.R_far (p := ⟨gb457, 1, none⟩) (Kd.R_far (p := ⟨gb457, 0, none⟩) (Kd.R_mono HO440.out (fun k_ hk => (⟨hk, hk.2⟩ : _ ∧ k_ ≠ gb457))) (fun _ hk => hk.2) (.int .i64 t454)) (fun _ hk => hk.2) (.int .i64 t455)) (fun _ h_ => h_.1))) hb); have n1_ := Aside0.mk (Kd.R_below (by (with_reducible repeat (first | apply Kd.R_alloc | apply Kd.R_drewN | apply Kd.R_drew)); exact (Kd.R_mono (Kd.R_far (p := ⟨gb457, 1, none⟩) (Kd.R_far (p := ⟨gb457, 0, none⟩) (Kd.R_mono HO443.out (fun k_ hk => (⟨hk, hk.2⟩ : _ ∧ k_ ≠ gb457))) (fun _ hk => hk.2) (.int .i64 t454)) (fun _ hk => hk.2) (.int .i64 t455)) (fun _ h_ => h_.1))) hb); have n2_ := Aside0.mk (Kd.R_below (by (with_reducible repeat (first | apply Kd.R_alloc | apply Kd.R_drewN | apply Kd.R_drew)); exact (Kd.R_mono (Kd.R_far (p := ⟨gb457, 1, none⟩) (Kd.R_far (p := ⟨gb457, 0, none⟩) (Kd.R_mono HO450.out (fun k_ hk => (⟨hk, hk.2⟩ : _ ∧ k_ ≠ gb457))) (fun _ hk => hk.2) (.int .i64 t454)) (fun _ hk => hk.2) (.int .i64 t455)) (fun _ h_ => h_.1))) hb); have n3_ := Aside0.mk (Kd.R_below (by (with_reducible repeat (first | apply Kd.R_alloc | apply Kd.R_drewN | apply Kd.R_drew)); exact (Kd.R_mono (Kd.R_far (p := ⟨gb457, 1, none⟩) (Kd.R_far (p := ⟨gb457, 0, none⟩) (Kd.R_mono HO453.out (fun k_ hk => (⟨hk, hk.2⟩ : _ ∧ k_ ≠ gb457))) (fun _ hk => hk.2) (.int .i64 t454)) (fun _ hk => hk.2) (.int .i64 t455)) (fun _ h_ => h_.1))) hb); have n4_ := Aside0.mk (blk_below (g := gb447) (o := .cells #[.int .i64 t444, .int .i64 t445] 25 (0, 0)) (by (with_reducible repeat (first | refine blk_drewN ?_ _ | refine blk_drew ?_ | refine blk_alloc ?_ _)); refine blk_far ?_ NB447_457.out _; (with_reducible repeat (first | refine blk_drewN ?_ _ | refine blk_drew ?_ | refine blk_alloc ?_ _)); refine blk_far ?_ NB447_457.out _; (with_reducible repeat (first | refine blk_drewN ?_ _ | refine blk_drew ?_ | refine blk_alloc ?_ _)); exact BK447.out) hb); have n5_ := Aside0.mk (blk_below (g := gb457) (o := .cells #[.int .i64 t454, .int .i64 t455] 25 (0, 0)) (by (with_reducible repeat (first | refine blk_drewN ?_ _ | refine blk_drew ?_ | refine blk_alloc ?_ _)); refine blk_put (cs := #[.int .i64 t454, .int .i64 0]) ?_ 1 _ rfl; (with_reducible repeat (first | refine blk_drewN ?_ _ | refine blk_drew ?_ | refine blk_alloc ?_ _)); refine blk_put (cs := #[.int .i64 0, .int .i64 0]) ?_ 0 _ rfl; (with_reducible repeat (first | refine blk_drewN ?_ _ | refine blk_drew ?_ | refine blk_alloc ?_ _)); exact BK457.out) hb); have n6_ := Aside0.mk (below_step (by repeat (first | (with_reducible first | exact HB.out | apply below_alloc | apply pw_below_drewN | apply below_drew1 | refine below_set ?_ GE447.out | refine below_set ?_ GE457.out) | exact HB.out)) hb); clear HO440; clear HO443; clear HO450; clear HO453; clear BK447; clear BK457; clear HB; have HO440 := n0_; have HO443 := n1_; have HO450 := n2_; have HO453 := n3_; have BK447 := n4_; have BK457 := n5_; have HB := n6_; clear n0_ n1_ n2_ n3_ n4_ n5_ n6_; (try clear hb); (try clear hb2); (try clear hk); (try clear hi)))
    go_meet
    case rel => exact ⟨_, (true), (by first | rfl | (simp; done) | (simp [*]; done)), H', ⟨by first | omega | exact Nat.le_refl _⟩, ⟨by (with_reducible repeat (first | apply Kd.R_alloc | apply Kd.R_drewN | apply Kd.R_drew)); exact Kd.R_mono HO443.out (fun _ hk => ⟨hk.1.1.2, ⟨hk.1.2, ⟨hk.1.1.1.2, hk.2⟩⟩⟩)⟩, ⟨by (with_reducible repeat (first | apply Kd.R_alloc | apply Kd.R_drewN | apply Kd.R_drew)); exact Kd.R_mono HO450.out (fun _ hk => ⟨hk.1.1.1.2, ⟨hk.1.2, ⟨hk.1.1.2, hk.2⟩⟩⟩)⟩, ⟨by (with_reducible repeat (first | apply Kd.R_alloc | apply Kd.R_drewN | apply Kd.R_drew)); exact Kd.R_mono HO453.out (fun _ hk => ⟨hk.1.1.1.2, ⟨hk.1.1.2, ⟨hk.1.2, hk.2⟩⟩⟩)⟩, ⟨by (with_reducible repeat (first | refine blk_drewN ?_ _ | refine blk_drew ?_ | refine blk_alloc ?_ _)); exact BK447.out⟩, ⟨by (with_reducible repeat (first | refine blk_drewN ?_ _ | refine blk_drew ?_ | refine blk_alloc ?_ _)); exact BK457.out⟩, ⟨by repeat (first | (with_reducible first | exact HB.out | apply below_alloc | apply pw_below_drewN | apply below_drew1 | refine below_set ?_ GE447.out | refine below_set ?_ GE457.out) | exact HB.out)⟩⟩
  case rest =>
   clear HC8
   try clear c1
   try clear c2
   try clear p2
   try clear c3
   try clear c3b0
   try clear c8
   try clear c17
   try clear c18
   try clear c19
   try clear c21
   try clear c23
   try clear c27
   try clear c33
   try clear c34
   try clear hcz13_0
   try clear hcz13_1
   try clear hcz19_0
   try clear hcz19_1
   try clear hcz28_0
   try clear hcz28_1
   try clear hcz29_0
   try clear hcz29_1
   try clear hcz35_0
   try clear hcz35_1
   try clear hcz36_0
   try clear hcz36_1
   try clear hfz13_0
   try clear hfz13_1
   try clear hfz19_0
   try clear hfz19_1
   try clear hfz28_0
   try clear hfz28_1
   try clear hfz29_0
   try clear hfz29_1
   try clear hfz35_0
   try clear hfz35_1
   try clear hfz36_0
   try clear hfz36_1
   obtain ⟨kq, x51_7, rfl, HA, HJ7, HO_4, HO_7, HO_8, BK447, BK457, HB⟩ := hcut
   cases kq with
   | zero => exact absurd HA.out (by simp [laws_FnExactHeapTake.j0])
   | succ kj7 =>
    have H := HA.out
    clear HA
    simp only [laws_FnExactHeapTake.j0] at H
    by_cases c41 : x51_7 = true
    ·
     subst c41
     have H1 : (none) = some r := by rw [if_pos rfl] at H; exact H
     clear H
     have H := H1
     clear H1
     exact absurd H (by simp)
    ·
     replace c41 := Bool.eq_false_iff.mpr c41
     subst c41
     have H1 : ((laws_toTimerS.f kj7 l0).bind fun t460 => ((laws_eqTimerS.f kj7 t448 t460).bind fun t463 => (if t463 = true then ((laws_markTimerS.f kj7 t448 1).bind fun bt464 => (if bt464.1 < 0 then (laws_FnExactHeapTake.j1 kj7 l0 t441 t446 t451 true t444 t445) else ((laws_eqTimerS.f kj7 t451 t441).bind fun t466 => (if t466 = true then ((laws_eqTimer.f t454 t455 t444 t445).bind fun t467 => (if t467 = true then (laws_FnExactHeapTake.j1 kj7 l0 t441 t446 t451 (t456 != t446) t444 t445) else (laws_FnExactHeapTake.j1 kj7 l0 t441 t446 t451 true t444 t445))) else (laws_FnExactHeapTake.j1 kj7 l0 t441 t446 t451 true t444 t445))))) else (none)))) = some r := by rw [if_neg (show ¬ (false = true) by decide)] at H; exact H
     clear H
     have H := H1
     clear H1
     replace H := Option.bind_eq_some_iff.mp H
     obtain ⟨t460, A420, H⟩ := H
     replace H : ((laws_eqTimerS.f kj7 t448 t460).bind fun t463 => (if t463 = true then ((laws_markTimerS.f kj7 t448 1).bind fun bt464 => (if bt464.1 < 0 then (laws_FnExactHeapTake.j1 kj7 l0 t441 t446 t451 true t444 t445) else ((laws_eqTimerS.f kj7 t451 t441).bind fun t466 => (if t466 = true then ((laws_eqTimer.f t454 t455 t444 t445).bind fun t467 => (if t467 = true then (laws_FnExactHeapTake.j1 kj7 l0 t441 t446 t451 (t456 != t446) t444 t445) else (laws_FnExactHeapTake.j1 kj7 l0 t441 t446 t451 true t444 t445))) else (laws_FnExactHeapTake.j1 kj7 l0 t441 t446 t451 true t444 t445))))) else (none))) = some r := H
     have A42 := Aside0.mk A420
     clear A420
     replace H := Option.bind_eq_some_iff.mp H
     obtain ⟨t463, A430, H⟩ := H
     replace H : (if t463 = true then ((laws_markTimerS.f kj7 t448 1).bind fun bt464 => (if bt464.1 < 0 then (laws_FnExactHeapTake.j1 kj7 l0 t441 t446 t451 true t444 t445) else ((laws_eqTimerS.f kj7 t451 t441).bind fun t466 => (if t466 = true then ((laws_eqTimer.f t454 t455 t444 t445).bind fun t467 => (if t467 = true then (laws_FnExactHeapTake.j1 kj7 l0 t441 t446 t451 (t456 != t446) t444 t445) else (laws_FnExactHeapTake.j1 kj7 l0 t441 t446 t451 true t444 t445))) else (laws_FnExactHeapTake.j1 kj7 l0 t441 t446 t451 true t444 t445))))) else (none)) = some r := H
     have A43 := Aside0.mk A430
     clear A430
     by_cases c44 : t463 = true
     ·
      subst c44
      have H1 : ((laws_markTimerS.f kj7 t448 1).bind fun bt464 => (if bt464.1 < 0 then (laws_FnExactHeapTake.j1 kj7 l0 t441 t446 t451 true t444 t445) else ((laws_eqTimerS.f kj7 t451 t441).bind fun t466 => (if t466 = true then ((laws_eqTimer.f t454 t455 t444 t445).bind fun t467 => (if t467 = true then (laws_FnExactHeapTake.j1 kj7 l0 t441 t446 t451 (t456 != t446) t444 t445) else (laws_FnExactHeapTake.j1 kj7 l0 t441 t446 t451 true t444 t445))) else (laws_FnExactHeapTake.j1 kj7 l0 t441 t446 t451 true t444 t445))))) = some r := by rw [if_pos rfl] at H; exact H
      clear H
      have H := H1
      clear H1
      replace H := Option.bind_eq_some_iff.mp H
      obtain ⟨⟨t464, t465⟩, A450, H⟩ := H
      replace H : (if t464 < 0 then (laws_FnExactHeapTake.j1 kj7 l0 t441 t446 t451 true t444 t445) else ((laws_eqTimerS.f kj7 t451 t441).bind fun t466 => (if t466 = true then ((laws_eqTimer.f t454 t455 t444 t445).bind fun t467 => (if t467 = true then (laws_FnExactHeapTake.j1 kj7 l0 t441 t446 t451 (t456 != t446) t444 t445) else (laws_FnExactHeapTake.j1 kj7 l0 t441 t446 t451 true t444 t445))) else (laws_FnExactHeapTake.j1 kj7 l0 t441 t446 t451 true t444 t445)))) = some r := H
      have A45 := Aside0.mk A450
      clear A450
      have HC46 := Aside0.mk H
      clear H
      go_upto_region 14 with (first | ((with_reducible refine gate_callee (f := 19) rfl ?_); refine goesL_ (some 54) rfl rfl Try.func19 (by kernel_rfl) rfl #[.slice A0 l0.length c0] rfl (by (try simp only [List.map_toArray, List.map_cons, List.map_nil]); first | done | rfl | (simp only [List.length_drop, List.length_take]; rfl)) ?_; (with_reducible refine (laws_toTimerS.calls kj7 _ _ l0 t460 _ ?side1 ?side2 A42.out).mono ?_); (case side1 => repeat (first | exact (Kd.C_below HR0.out HB.out) | (with_reducible refine Kd.C_alloc ?_ _) | (with_reducible refine Kd.C_drewN ?_ _) | (with_reducible refine Kd.C_drew ?_))); (case side2 => exact HC0.out); rintro e w47 ⟨v461, rfl, ho0, hb⟩; refine ⟨_, rfl, ?_⟩; have n0_ := Aside0.mk (Kd.R_elder' (by (with_reducible repeat (first | apply Kd.R_alloc | apply Kd.R_drewN | apply Kd.R_drew)); exact HO_4.out) (Kd.R_base ho0) hb); have n1_ := Aside0.mk (Kd.R_elder' (by (with_reducible repeat (first | apply Kd.R_alloc | apply Kd.R_drewN | apply Kd.R_drew)); exact HO_7.out) (Kd.R_base ho0) hb); have n2_ := Aside0.mk (Kd.R_elder' (by (with_reducible repeat (first | apply Kd.R_alloc | apply Kd.R_drewN | apply Kd.R_drew)); exact HO_8.out) (Kd.R_base ho0) hb); have n3_ := Aside0.mk (Kd.R_lower (Kd.R_newB (Kd.R_newB (Kd.R_new' (Kd.R_new' (Kd.R_new' ho0 (Kd.R_lt (by (with_reducible repeat (first | apply Kd.R_alloc | apply Kd.R_drewN | apply Kd.R_drew)); exact HO_4.out))) (Kd.R_lt (by (with_reducible repeat (first | apply Kd.R_alloc | apply Kd.R_drewN | apply Kd.R_drew)); exact HO_7.out))) (Kd.R_lt (by (with_reducible repeat (first | apply Kd.R_alloc | apply Kd.R_drewN | apply Kd.R_drew)); exact HO_8.out))) (g := gb447) (o := .cells #[.int .i64 t444, .int .i64 t445] 25 (0, 0)) (by (with_reducible repeat (first | refine blk_drewN ?_ _ | refine blk_drew ?_ | refine blk_alloc ?_ _)); exact BK447.out)) (g := gb457) (o := .cells #[.int .i64 t454, .int .i64 t455] 25 (0, 0)) (by (with_reducible repeat (first | refine blk_drewN ?_ _ | refine blk_drew ?_ | refine blk_alloc ?_ _)); exact BK457.out)) (below_size (by repeat (first | (with_reducible first | exact HB.out | apply below_alloc | apply pw_below_drewN | apply below_drew1 | refine below_set ?_ GE447.out | refine below_set ?_ GE457.out) | exact HB.out)))); have n4_ := Aside0.mk (blk_below (g := gb447) (o := .cells #[.int .i64 t444, .int .i64 t445] 25 (0, 0)) (by (with_reducible repeat (first | refine blk_drewN ?_ _ | refine blk_drew ?_ | refine blk_alloc ?_ _)); exact BK447.out) hb); have n5_ := Aside0.mk (blk_below (g := gb457) (o := .cells #[.int .i64 t454, .int .i64 t455] 25 (0, 0)) (by (with_reducible repeat (first | refine blk_drewN ?_ _ | refine blk_drew ?_ | refine blk_alloc ?_ _)); exact BK457.out) hb); have n6_ := Aside0.mk (below_step (by repeat (first | (with_reducible first | exact HB.out | apply below_alloc | apply pw_below_drewN | apply below_drew1 | refine below_set ?_ GE447.out | refine below_set ?_ GE457.out) | exact HB.out)) hb); clear HO_4; clear HO_7; clear HO_8; clear BK447; clear BK457; clear HB; have HO_4 := n0_; have HO_7 := n1_; have HO_8 := n2_; have HO462 := n3_; have BK447 := n4_; have BK457 := n5_; have HB := n6_; clear n0_ n1_ n2_ n3_ n4_ n5_ n6_; (try clear hb); (try clear hb2); (try clear hk); (try clear hi); (try clear ho0); obtain ⟨Ao48, co48, eo48⟩ := Kd.R_slice HO462.out; subst eo48) | ((with_reducible refine gate_callee (f := 21) rfl ?_); refine goesL_ (some 55) rfl rfl Try.func21 (by kernel_rfl) rfl #[.slice Ao15 t448.length co15, .slice Ao48 t460.length co48] rfl (by (try simp only [List.map_toArray, List.map_cons, List.map_nil]); first | done | rfl | (simp only [List.length_drop, List.length_take]; rfl)) ?_; (with_reducible refine (laws_eqTimerS.calls kj7 _ _ t448 _ _ t460 true _ ?side1 ?side2 ?side3 ?side4 A43.out).mono ?_); (case side1 => repeat (first | exact (Kd.R_reads' HO_7.out).2.2 | (with_reducible refine Kd.C_alloc ?_ _) | (with_reducible refine Kd.C_drewN ?_ _) | (with_reducible refine Kd.C_drew ?_))); (case side2 => exact (Kd.R_reads' HO_7.out).2.1); (case side3 => repeat (first | exact (Kd.R_reads' HO462.out).2.2 | (with_reducible refine Kd.C_alloc ?_ _) | (with_reducible refine Kd.C_drewN ?_ _) | (with_reducible refine Kd.C_drew ?_))); (case side4 => exact (Kd.R_reads' HO462.out).2.1); rintro e w49 ⟨rfl, hb⟩; refine ⟨_, rfl, ?_⟩; have n0_ := Aside0.mk (Kd.R_below (by (with_reducible repeat (first | apply Kd.R_alloc | apply Kd.R_drewN | apply Kd.R_drew)); exact HO_4.out) hb); have n1_ := Aside0.mk (Kd.R_below (by (with_reducible repeat (first | apply Kd.R_alloc | apply Kd.R_drewN | apply Kd.R_drew)); exact HO_7.out) hb); have n2_ := Aside0.mk (Kd.R_below (by (with_reducible repeat (first | apply Kd.R_alloc | apply Kd.R_drewN | apply Kd.R_drew)); exact HO_8.out) hb); have n3_ := Aside0.mk (Kd.R_below (by (with_reducible repeat (first | apply Kd.R_alloc | apply Kd.R_drewN | apply Kd.R_drew)); exact HO462.out) hb); have n4_ := Aside0.mk (blk_below (g := gb447) (o := .cells #[.int .i64 t444, .int .i64 t445] 25 (0, 0)) (by (with_reducible repeat (first | refine blk_drewN ?_ _ | refine blk_drew ?_ | refine blk_alloc ?_ _)); exact BK447.out) hb); have n5_ := Aside0.mk (blk_below (g := gb457) (o := .cells #[.int .i64 t454, .int .i64 t455] 25 (0, 0)) (by (with_reducible repeat (first | refine blk_drewN ?_ _ | refine blk_drew ?_ | refine blk_alloc ?_ _)); exact BK457.out) hb); have n6_ := Aside0.mk (below_step (by repeat (first | (with_reducible first | exact HB.out | apply below_alloc | apply pw_below_drewN | apply below_drew1 | refine below_set ?_ GE447.out | refine below_set ?_ GE457.out) | exact HB.out)) hb); clear HO_4; clear HO_7; clear HO_8; clear HO462; clear BK447; clear BK457; clear HB; have HO_4 := n0_; have HO_7 := n1_; have HO_8 := n2_; have HO462 := n3_; have BK447 := n4_; have BK457 := n5_; have HB := n6_; clear n0_ n1_ n2_ n3_ n4_ n5_ n6_; (try clear hb); (try clear hb2); (try clear hk); (try clear hi)) | ((with_reducible refine gate_callee (f := 24) rfl ?_); refine goesL_ (some 59) rfl rfl Try.func24 (by kernel_rfl) rfl #[.slice Ao15 t448.length co15, .int .i64 1] rfl (by (try simp only [List.map_toArray, List.map_cons, List.map_nil]); first | done | rfl | (simp only [List.length_drop, List.length_take]; rfl)) ?_; (with_reducible refine (laws_markTimerS.calls kj7 (fun k_ => some k_ = (.slice Ao15 t448.length co15 : Value).ownBlock) (.slice Ao15 t448.length co15) t448 1 t464 t465 w _ ?side1 ?side2 A45.out).mono ?_); (case side1 => repeat (first | (with_reducible first | exact HB.out | apply below_alloc | apply pw_below_drewN | apply below_drew1 | refine below_set ?_ GE447.out | refine below_set ?_ GE457.out) | exact HB.out)); (case side2 => exact Kd.R_tight rfl HO_7.out); rintro e w50 ⟨rfl, hy0, hb, hkp⟩; refine ⟨_, rfl, ?_⟩; have n0_ := Aside0.mk (Kd.R_mono (ok' := fun k_ => some k_ ≠ (.slice Ao15 t448.length co15 : Value).ownBlock ∧ some k_ ≠ (v452 : Value).ownBlock ∧ some k_ ≠ (.slice Ao48 t460.length co48 : Value).ownBlock ∧ k_ ≠ gb447 ∧ k_ ≠ gb457) (Kd.R_keptB (HO_4.out) hkp (fun k_ hk_ hs_ => (hk_.1.1) hs_)) (fun k_ hk_ => ⟨hk_.1.1.1, hk_.1.1.2.1, hk_.1.2, hk_.1.1.2.2.1, hk_.1.1.2.2.2⟩)); have n1_ := Aside0.mk (Kd.R_reok rfl hy0 (fun k_ e_ => HO_7.out.1 k_ e_)); have n2_ := Aside0.mk (Kd.R_mono (ok' := fun k_ => some k_ ≠ (v442 : Value).ownBlock ∧ some k_ ≠ (.slice Ao15 t448.length co15 : Value).ownBlock ∧ some k_ ≠ (.slice Ao48 t460.length co48 : Value).ownBlock ∧ k_ ≠ gb447 ∧ k_ ≠ gb457) (Kd.R_keptB (HO_8.out) hkp (fun k_ hk_ hs_ => (hk_.1.2.1) hs_)) (fun k_ hk_ => ⟨hk_.1.1.1, hk_.1.1.2.1, hk_.1.2, hk_.1.1.2.2.1, hk_.1.1.2.2.2⟩)); have n3_ := Aside0.mk (blk_kept (by (with_reducible repeat (first | refine blk_drewN ?_ _ | refine blk_drew ?_ | refine blk_alloc ?_ _)); exact BK447.out) hkp (fun hs_ => (fun e_ => (Kd.R_away HO_7.out (fun _ hk => hk.1.2.2.1)) e_) hs_)); have n4_ := Aside0.mk (blk_kept (by (with_reducible repeat (first | refine blk_drewN ?_ _ | refine blk_drew ?_ | refine blk_alloc ?_ _)); exact BK457.out) hkp (fun hs_ => (fun e_ => (Kd.R_away HO_7.out (fun _ hk => hk.1.2.2.2)) e_) hs_)); have n5_ := Aside0.mk (Kd.R_mono (ok' := fun k_ => some k_ ≠ (v442 : Value).ownBlock ∧ some k_ ≠ (.slice Ao15 t448.length co15 : Value).ownBlock ∧ some k_ ≠ (v452 : Value).ownBlock ∧ k_ ≠ gb447 ∧ k_ ≠ gb457) (Kd.R_keptB (HO462.out) hkp (fun k_ hk_ hs_ => (hk_.1.1.1.2) hs_)) (fun k_ hk_ => ⟨hk_.1.1.1.1.1.2, hk_.1.1.1.1.2, hk_.1.1.1.2, hk_.1.1.2, hk_.1.2⟩)); have n6_ := Aside0.mk (hb); clear HO_4; clear HO_7; clear HO_8; clear BK447; clear BK457; clear HO462; clear HB; have HO_4 := n0_; have HO_7 := n1_; have HO_8 := n2_; have BK447 := n3_; have BK457 := n4_; have HO462 := n5_; have HB := n6_; clear n0_ n1_ n2_ n3_ n4_ n5_ n6_; (try clear hb); (try clear hkp); (try clear hy0)))
      (try simp only [Act.put, List.setIfInBounds_toArray, List.set_cons_zero, List.set_cons_succ])
      go_cut [78] (fun v78 wc => ∃ (kq : Nat) (x78_45 : Bool), v78 = .bool x78_45 ∧ Aside0 (laws_FnExactHeapTake.j1 kq l0 t441 t446 t451 x78_45 t444 t445 = some r) ∧ Aside0 (kq ≤ kj7) ∧ Aside0 (Kd.R k25 25 wc w.heap.size (fun k_ => some k_ ≠ (v452 : Value).ownBlock ∧ k_ ≠ gb447 ∧ k_ ≠ gb457) v442 t441) ∧ Aside0 (Kd.R k25 25 wc w.heap.size (fun k_ => some k_ ≠ (v442 : Value).ownBlock ∧ k_ ≠ gb447 ∧ k_ ≠ gb457) v452 t451) ∧ Aside0 (wc.heap[gb447]? = some (.cells #[.int .i64 t444, .int .i64 t445] 25 (0, 0))) ∧ Aside0 (wc.heap[gb457]? = some (.cells #[.int .i64 t454, .int .i64 t455] 25 (0, 0))) ∧ Aside0 (Below w.heap.size w wc))
      case first =>
       have H := HC46.out
       clear HC46
       by_cases c51 : t464 < 0
       ·
        rw [if_pos c51] at H
        have c51b0 : decide (t464 < 0) = true := decide_eq_true c51
        clear c51
        (first | rw [c51b0] | (simp only [i64_w, i32_w]; rw [c51b0]) | skip)
        have H' := Aside0.mk H
        clear H
        go_wp2
        go_meet
        case rel => exact ⟨_, (true), (by first | rfl | (simp; done) | (simp [*]; done)), H', ⟨by have := HJ7.out; first | omega | exact Nat.le_refl _⟩, ⟨by (with_reducible repeat (first | apply Kd.R_alloc | apply Kd.R_drewN | apply Kd.R_drew)); exact Kd.R_mono HO_4.out (fun _ hk => ⟨hk.2.1, ⟨hk.2.2.2.1, hk.2.2.2.2⟩⟩)⟩, ⟨by (with_reducible repeat (first | apply Kd.R_alloc | apply Kd.R_drewN | apply Kd.R_drew)); exact Kd.R_mono HO_8.out (fun _ hk => ⟨hk.1, ⟨hk.2.2.2.1, hk.2.2.2.2⟩⟩)⟩, ⟨by (with_reducible repeat (first | refine blk_drewN ?_ _ | refine blk_drew ?_ | refine blk_alloc ?_ _)); exact BK447.out⟩, ⟨by (with_reducible repeat (first | refine blk_drewN ?_ _ | refine blk_drew ?_ | refine blk_alloc ?_ _)); exact BK457.out⟩, ⟨by repeat (first | (with_reducible first | exact HB.out | apply below_alloc | apply pw_below_drewN | apply below_drew1 | refine below_set ?_ GE447.out | refine below_set ?_ GE457.out) | exact HB.out)⟩⟩
       ·
        rw [if_neg c51] at H
        have c51b0 : decide (t464 < 0) = false := decide_eq_false c51
        clear c51
        (first | rw [c51b0] | (simp only [i64_w, i32_w]; rw [c51b0]) | skip)
        replace H := Option.bind_eq_some_iff.mp H
        obtain ⟨t466, A520, H⟩ := H
        replace H : (if t466 = true then ((laws_eqTimer.f t454 t455 t444 t445).bind fun t467 => (if t467 = true then (laws_FnExactHeapTake.j1 kj7 l0 t441 t446 t451 (t456 != t446) t444 t445) else (laws_FnExactHeapTake.j1 kj7 l0 t441 t446 t451 true t444 t445))) else (laws_FnExactHeapTake.j1 kj7 l0 t441 t446 t451 true t444 t445)) = some r := H
        have A52 := Aside0.mk A520
        clear A520
        by_cases c53 : t466 = true
        ·
         subst c53
         have H1 : ((laws_eqTimer.f t454 t455 t444 t445).bind fun t467 => (if t467 = true then (laws_FnExactHeapTake.j1 kj7 l0 t441 t446 t451 (t456 != t446) t444 t445) else (laws_FnExactHeapTake.j1 kj7 l0 t441 t446 t451 true t444 t445))) = some r := by rw [if_pos rfl] at H; exact H
         clear H
         have H := H1
         clear H1
         replace H := Option.bind_eq_some_iff.mp H
         obtain ⟨t467, A540, H⟩ := H
         replace H : (if t467 = true then (laws_FnExactHeapTake.j1 kj7 l0 t441 t446 t451 (t456 != t446) t444 t445) else (laws_FnExactHeapTake.j1 kj7 l0 t441 t446 t451 true t444 t445)) = some r := H
         have A54 := Aside0.mk A540
         clear A540
         by_cases c55 : t467 = true
         ·
          subst c55
          have H1 : (laws_FnExactHeapTake.j1 kj7 l0 t441 t446 t451 (t456 != t446) t444 t445) = some r := by rw [if_pos rfl] at H; exact H
          clear H
          have H := H1
          clear H1
          have H' := Aside0.mk H
          clear H
          obtain ⟨Ao56, co56, eo56⟩ := Kd.R_slice HO_8.out
          subst eo56
          obtain ⟨Ao57, co57, eo57⟩ := Kd.R_slice HO_4.out
          subst eo57
          go_wp2_with (first | (go_at_call 21; (with_reducible refine (laws_eqTimerS.calls kj7 _ _ t451 _ _ t441 true _ ?side1 ?side2 ?side3 ?side4 A52.out).mono ?_); (case side1 => repeat (first | exact (Kd.R_reads' HO_8.out).2.2 | (with_reducible refine Kd.C_alloc ?_ _) | (with_reducible refine Kd.C_drewN ?_ _) | (with_reducible refine Kd.C_drew ?_))); (case side2 => exact (Kd.R_reads' HO_8.out).2.1); (case side3 => repeat (first | exact (Kd.R_reads' HO_4.out).2.2 | (with_reducible refine Kd.C_alloc ?_ _) | (with_reducible refine Kd.C_drewN ?_ _) | (with_reducible refine Kd.C_drew ?_))); (case side4 => exact (Kd.R_reads' HO_4.out).2.1); rintro e w58 ⟨rfl, hb⟩; have n0_ := Aside0.mk (Kd.R_below (by (with_reducible repeat (first | apply Kd.R_alloc | apply Kd.R_drewN | apply Kd.R_drew)); exact HO_4.out) hb); have n1_ := Aside0.mk (Kd.R_below (by (with_reducible repeat (first | apply Kd.R_alloc | apply Kd.R_drewN | apply Kd.R_drew)); exact HO_7.out) hb); have n2_ := Aside0.mk (Kd.R_below (by (with_reducible repeat (first | apply Kd.R_alloc | apply Kd.R_drewN | apply Kd.R_drew)); exact HO_8.out) hb); have n3_ := Aside0.mk (Kd.R_below (by (with_reducible repeat (first | apply Kd.R_alloc | apply Kd.R_drewN | apply Kd.R_drew)); exact HO462.out) hb); have n4_ := Aside0.mk (blk_below (g := gb447) (o := .cells #[.int .i64 t444, .int .i64 t445] 25 (0, 0)) (by (with_reducible repeat (first | refine blk_drewN ?_ _ | refine blk_drew ?_ | refine blk_alloc ?_ _)); exact BK447.out) hb); have n5_ := Aside0.mk (blk_below (g := gb457) (o := .cells #[.int .i64 t454, .int .i64 t455] 25 (0, 0)) (by (with_reducible repeat (first | refine blk_drewN ?_ _ | refine blk_drew ?_ | refine blk_alloc ?_ _)); exact BK457.out) hb); have n6_ := Aside0.mk (below_step (by repeat (first | (with_reducible first | exact HB.out | apply below_alloc | apply pw_below_drewN | apply below_drew1 | refine below_set ?_ GE447.out | refine below_set ?_ GE457.out) | exact HB.out)) hb); clear HO_4; clear HO_7; clear HO_8; clear HO462; clear BK447; clear BK457; clear HB; have HO_4 := n0_; have HO_7 := n1_; have HO_8 := n2_; have HO462 := n3_; have BK447 := n4_; have BK457 := n5_; have HB := n6_; clear n0_ n1_ n2_ n3_ n4_ n5_ n6_; (try clear hb); (try clear hb2); (try clear hk); (try clear hi); have hnb59 := NB457_447.out; have hnc59 := NB447_457.out; have hcz60_0 : w58.cell? ⟨gb457, 0, none⟩ = some (.int .i64 t454) := (blk_cell BK457.out 0).trans rfl; have hcz60_1 : w58.cell? ⟨gb457, 1, none⟩ = some (.int .i64 t455) := (blk_cell BK457.out 1).trans rfl; have hfz60_0 := blk_frozen BK457.out 0; have hfz60_1 := blk_frozen BK457.out 1; have hcz61_0 : w58.cell? ⟨gb447, 0, none⟩ = some (.int .i64 t444) := (blk_cell BK447.out 0).trans rfl; have hcz61_1 : w58.cell? ⟨gb447, 1, none⟩ = some (.int .i64 t445) := (blk_cell BK447.out 1).trans rfl; have hfz61_0 := blk_frozen BK447.out 0; have hfz61_1 := blk_frozen BK447.out 1) | (go_at_call 35; (with_reducible refine (laws_eqTimer.calls t454 t455 t444 t445 true _ A54.out).mono ?_); rintro e w62 ⟨rfl, hb⟩; have n0_ := Aside0.mk (Kd.R_below (by (with_reducible repeat (first | apply Kd.R_alloc | apply Kd.R_drewN | apply Kd.R_drew)); exact HO_4.out) hb); have n1_ := Aside0.mk (Kd.R_below (by (with_reducible repeat (first | apply Kd.R_alloc | apply Kd.R_drewN | apply Kd.R_drew)); exact HO_7.out) hb); have n2_ := Aside0.mk (Kd.R_below (by (with_reducible repeat (first | apply Kd.R_alloc | apply Kd.R_drewN | apply Kd.R_drew)); exact HO_8.out) hb); have n3_ := Aside0.mk (Kd.R_below (by (with_reducible repeat (first | apply Kd.R_alloc | apply Kd.R_drewN | apply Kd.R_drew)); exact HO462.out) hb); have n4_ := Aside0.mk (blk_below (g := gb447) (o := .cells #[.int .i64 t444, .int .i64 t445] 25 (0, 0)) (by (with_reducible repeat (first | refine blk_drewN ?_ _ | refine blk_drew ?_ | refine blk_alloc ?_ _)); exact BK447.out) hb); have n5_ := Aside0.mk (blk_below (g := gb457) (o := .cells #[.int .i64 t454, .int .i64 t455] 25 (0, 0)) (by (with_reducible repeat (first | refine blk_drewN ?_ _ | refine blk_drew ?_ | refine blk_alloc ?_ _)); exact BK457.out) hb); have n6_ := Aside0.mk (below_step (by repeat (first | (with_reducible first | exact HB.out | apply below_alloc | apply pw_below_drewN | apply below_drew1 | refine below_set ?_ GE447.out | refine below_set ?_ GE457.out) | exact HB.out)) hb); clear HO_4; clear HO_7; clear HO_8; clear HO462; clear BK447; clear BK457; clear HB; have HO_4 := n0_; have HO_7 := n1_; have HO_8 := n2_; have HO462 := n3_; have BK447 := n4_; have BK457 := n5_; have HB := n6_; clear n0_ n1_ n2_ n3_ n4_ n5_ n6_; (try clear hb); (try clear hb2); (try clear hk); (try clear hi)))
          go_meet
          case rel => exact ⟨_, ((t456 != t446)), (by first | rfl | (simp; done) | (simp [*]; done)), H', ⟨by have := HJ7.out; first | omega | exact Nat.le_refl _⟩, ⟨by (with_reducible repeat (first | apply Kd.R_alloc | apply Kd.R_drewN | apply Kd.R_drew)); exact Kd.R_mono HO_4.out (fun _ hk => ⟨hk.2.1, ⟨hk.2.2.2.1, hk.2.2.2.2⟩⟩)⟩, ⟨by (with_reducible repeat (first | apply Kd.R_alloc | apply Kd.R_drewN | apply Kd.R_drew)); exact Kd.R_mono HO_8.out (fun _ hk => ⟨hk.1, ⟨hk.2.2.2.1, hk.2.2.2.2⟩⟩)⟩, ⟨by (with_reducible repeat (first | refine blk_drewN ?_ _ | refine blk_drew ?_ | refine blk_alloc ?_ _)); exact BK447.out⟩, ⟨by (with_reducible repeat (first | refine blk_drewN ?_ _ | refine blk_drew ?_ | refine blk_alloc ?_ _)); exact BK457.out⟩, ⟨by repeat (first | (with_reducible first | exact HB.out | apply below_alloc | apply pw_below_drewN | apply below_drew1 | refine below_set ?_ GE447.out | refine below_set ?_ GE457.out) | exact HB.out)⟩⟩
         ·
          replace c55 := Bool.eq_false_iff.mpr c55
          subst c55
          have H1 : (laws_FnExactHeapTake.j1 kj7 l0 t441 t446 t451 true t444 t445) = some r := by rw [if_neg (show ¬ (false = true) by decide)] at H; exact H
          clear H
          have H := H1
          clear H1
          have H' := Aside0.mk H
          clear H
          obtain ⟨Ao63, co63, eo63⟩ := Kd.R_slice HO_8.out
          subst eo63
          obtain ⟨Ao64, co64, eo64⟩ := Kd.R_slice HO_4.out
          subst eo64
          go_wp2_with (first | (go_at_call 21; (with_reducible refine (laws_eqTimerS.calls kj7 _ _ t451 _ _ t441 true _ ?side1 ?side2 ?side3 ?side4 A52.out).mono ?_); (case side1 => repeat (first | exact (Kd.R_reads' HO_8.out).2.2 | (with_reducible refine Kd.C_alloc ?_ _) | (with_reducible refine Kd.C_drewN ?_ _) | (with_reducible refine Kd.C_drew ?_))); (case side2 => exact (Kd.R_reads' HO_8.out).2.1); (case side3 => repeat (first | exact (Kd.R_reads' HO_4.out).2.2 | (with_reducible refine Kd.C_alloc ?_ _) | (with_reducible refine Kd.C_drewN ?_ _) | (with_reducible refine Kd.C_drew ?_))); (case side4 => exact (Kd.R_reads' HO_4.out).2.1); rintro e w65 ⟨rfl, hb⟩; have n0_ := Aside0.mk (Kd.R_below (by (with_reducible repeat (first | apply Kd.R_alloc | apply Kd.R_drewN | apply Kd.R_drew)); exact HO_4.out) hb); have n1_ := Aside0.mk (Kd.R_below (by (with_reducible repeat (first | apply Kd.R_alloc | apply Kd.R_drewN | apply Kd.R_drew)); exact HO_7.out) hb); have n2_ := Aside0.mk (Kd.R_below (by (with_reducible repeat (first | apply Kd.R_alloc | apply Kd.R_drewN | apply Kd.R_drew)); exact HO_8.out) hb); have n3_ := Aside0.mk (Kd.R_below (by (with_reducible repeat (first | apply Kd.R_alloc | apply Kd.R_drewN | apply Kd.R_drew)); exact HO462.out) hb); have n4_ := Aside0.mk (blk_below (g := gb447) (o := .cells #[.int .i64 t444, .int .i64 t445] 25 (0, 0)) (by (with_reducible repeat (first | refine blk_drewN ?_ _ | refine blk_drew ?_ | refine blk_alloc ?_ _)); exact BK447.out) hb); have n5_ := Aside0.mk (blk_below (g := gb457) (o := .cells #[.int .i64 t454, .int .i64 t455] 25 (0, 0)) (by (with_reducible repeat (first | refine blk_drewN ?_ _ | refine blk_drew ?_ | refine blk_alloc ?_ _)); exact BK457.out) hb); have n6_ := Aside0.mk (below_step (by repeat (first | (with_reducible first | exact HB.out | apply below_alloc | apply pw_below_drewN | apply below_drew1 | refine below_set ?_ GE447.out | refine below_set ?_ GE457.out) | exact HB.out)) hb); clear HO_4; clear HO_7; clear HO_8; clear HO462; clear BK447; clear BK457; clear HB; have HO_4 := n0_; have HO_7 := n1_; have HO_8 := n2_; have HO462 := n3_; have BK447 := n4_; have BK457 := n5_; have HB := n6_; clear n0_ n1_ n2_ n3_ n4_ n5_ n6_; (try clear hb); (try clear hb2); (try clear hk); (try clear hi); have hnb66 := NB457_447.out; have hnc66 := NB447_457.out; have hcz67_0 : w65.cell? ⟨gb457, 0, none⟩ = some (.int .i64 t454) := (blk_cell BK457.out 0).trans rfl; have hcz67_1 : w65.cell? ⟨gb457, 1, none⟩ = some (.int .i64 t455) := (blk_cell BK457.out 1).trans rfl; have hfz67_0 := blk_frozen BK457.out 0; have hfz67_1 := blk_frozen BK457.out 1; have hcz68_0 : w65.cell? ⟨gb447, 0, none⟩ = some (.int .i64 t444) := (blk_cell BK447.out 0).trans rfl; have hcz68_1 : w65.cell? ⟨gb447, 1, none⟩ = some (.int .i64 t445) := (blk_cell BK447.out 1).trans rfl; have hfz68_0 := blk_frozen BK447.out 0; have hfz68_1 := blk_frozen BK447.out 1) | (go_at_call 35; (with_reducible refine (laws_eqTimer.calls t454 t455 t444 t445 false _ A54.out).mono ?_); rintro e w69 ⟨rfl, hb⟩; have n0_ := Aside0.mk (Kd.R_below (by (with_reducible repeat (first | apply Kd.R_alloc | apply Kd.R_drewN | apply Kd.R_drew)); exact HO_4.out) hb); have n1_ := Aside0.mk (Kd.R_below (by (with_reducible repeat (first | apply Kd.R_alloc | apply Kd.R_drewN | apply Kd.R_drew)); exact HO_7.out) hb); have n2_ := Aside0.mk (Kd.R_below (by (with_reducible repeat (first | apply Kd.R_alloc | apply Kd.R_drewN | apply Kd.R_drew)); exact HO_8.out) hb); have n3_ := Aside0.mk (Kd.R_below (by (with_reducible repeat (first | apply Kd.R_alloc | apply Kd.R_drewN | apply Kd.R_drew)); exact HO462.out) hb); have n4_ := Aside0.mk (blk_below (g := gb447) (o := .cells #[.int .i64 t444, .int .i64 t445] 25 (0, 0)) (by (with_reducible repeat (first | refine blk_drewN ?_ _ | refine blk_drew ?_ | refine blk_alloc ?_ _)); exact BK447.out) hb); have n5_ := Aside0.mk (blk_below (g := gb457) (o := .cells #[.int .i64 t454, .int .i64 t455] 25 (0, 0)) (by (with_reducible repeat (first | refine blk_drewN ?_ _ | refine blk_drew ?_ | refine blk_alloc ?_ _)); exact BK457.out) hb); have n6_ := Aside0.mk (below_step (by repeat (first | (with_reducible first | exact HB.out | apply below_alloc | apply pw_below_drewN | apply below_drew1 | refine below_set ?_ GE447.out | refine below_set ?_ GE457.out) | exact HB.out)) hb); clear HO_4; clear HO_7; clear HO_8; clear HO462; clear BK447; clear BK457; clear HB; have HO_4 := n0_; have HO_7 := n1_; have HO_8 := n2_; have HO462 := n3_; have BK447 := n4_; have BK457 := n5_; have HB := n6_; clear n0_ n1_ n2_ n3_ n4_ n5_ n6_; (try clear hb); (try clear hb2); (try clear hk); (try clear hi)))
          go_meet
          case rel => exact ⟨_, (true), (by first | rfl | (simp; done) | (simp [*]; done)), H', ⟨by have := HJ7.out; first | omega | exact Nat.le_refl _⟩, ⟨by (with_reducible repeat (first | apply Kd.R_alloc | apply Kd.R_drewN | apply Kd.R_drew)); exact Kd.R_mono HO_4.out (fun _ hk => ⟨hk.2.1, ⟨hk.2.2.2.1, hk.2.2.2.2⟩⟩)⟩, ⟨by (with_reducible repeat (first | apply Kd.R_alloc | apply Kd.R_drewN | apply Kd.R_drew)); exact Kd.R_mono HO_8.out (fun _ hk => ⟨hk.1, ⟨hk.2.2.2.1, hk.2.2.2.2⟩⟩)⟩, ⟨by (with_reducible repeat (first | refine blk_drewN ?_ _ | refine blk_drew ?_ | refine blk_alloc ?_ _)); exact BK447.out⟩, ⟨by (with_reducible repeat (first | refine blk_drewN ?_ _ | refine blk_drew ?_ | refine blk_alloc ?_ _)); exact BK457.out⟩, ⟨by repeat (first | (with_reducible first | exact HB.out | apply below_alloc | apply pw_below_drewN | apply below_drew1 | refine below_set ?_ GE447.out | refine below_set ?_ GE457.out) | exact HB.out)⟩⟩
        ·
         replace c53 := Bool.eq_false_iff.mpr c53
         subst c53
         have H1 : (laws_FnExactHeapTake.j1 kj7 l0 t441 t446 t451 true t444 t445) = some r := by rw [if_neg (show ¬ (false = true) by decide)] at H; exact H
         clear H
         have H := H1
         clear H1
         have H' := Aside0.mk H
         clear H
         obtain ⟨Ao70, co70, eo70⟩ := Kd.R_slice HO_8.out
         subst eo70
         obtain ⟨Ao71, co71, eo71⟩ := Kd.R_slice HO_4.out
         subst eo71
         go_wp2_with (first | (go_at_call 21; (with_reducible refine (laws_eqTimerS.calls kj7 _ _ t451 _ _ t441 false _ ?side1 ?side2 ?side3 ?side4 A52.out).mono ?_); (case side1 => repeat (first | exact (Kd.R_reads' HO_8.out).2.2 | (with_reducible refine Kd.C_alloc ?_ _) | (with_reducible refine Kd.C_drewN ?_ _) | (with_reducible refine Kd.C_drew ?_))); (case side2 => exact (Kd.R_reads' HO_8.out).2.1); (case side3 => repeat (first | exact (Kd.R_reads' HO_4.out).2.2 | (with_reducible refine Kd.C_alloc ?_ _) | (with_reducible refine Kd.C_drewN ?_ _) | (with_reducible refine Kd.C_drew ?_))); (case side4 => exact (Kd.R_reads' HO_4.out).2.1); rintro e w72 ⟨rfl, hb⟩; have n0_ := Aside0.mk (Kd.R_below (by (with_reducible repeat (first | apply Kd.R_alloc | apply Kd.R_drewN | apply Kd.R_drew)); exact HO_4.out) hb); have n1_ := Aside0.mk (Kd.R_below (by (with_reducible repeat (first | apply Kd.R_alloc | apply Kd.R_drewN | apply Kd.R_drew)); exact HO_7.out) hb); have n2_ := Aside0.mk (Kd.R_below (by (with_reducible repeat (first | apply Kd.R_alloc | apply Kd.R_drewN | apply Kd.R_drew)); exact HO_8.out) hb); have n3_ := Aside0.mk (Kd.R_below (by (with_reducible repeat (first | apply Kd.R_alloc | apply Kd.R_drewN | apply Kd.R_drew)); exact HO462.out) hb); have n4_ := Aside0.mk (blk_below (g := gb447) (o := .cells #[.int .i64 t444, .int .i64 t445] 25 (0, 0)) (by (with_reducible repeat (first | refine blk_drewN ?_ _ | refine blk_drew ?_ | refine blk_alloc ?_ _)); exact BK447.out) hb); have n5_ := Aside0.mk (blk_below (g := gb457) (o := .cells #[.int .i64 t454, .int .i64 t455] 25 (0, 0)) (by (with_reducible repeat (first | refine blk_drewN ?_ _ | refine blk_drew ?_ | refine blk_alloc ?_ _)); exact BK457.out) hb); have n6_ := Aside0.mk (below_step (by repeat (first | (with_reducible first | exact HB.out | apply below_alloc | apply pw_below_drewN | apply below_drew1 | refine below_set ?_ GE447.out | refine below_set ?_ GE457.out) | exact HB.out)) hb); clear HO_4; clear HO_7; clear HO_8; clear HO462; clear BK447; clear BK457; clear HB; have HO_4 := n0_; have HO_7 := n1_; have HO_8 := n2_; have HO462 := n3_; have BK447 := n4_; have BK457 := n5_; have HB := n6_; clear n0_ n1_ n2_ n3_ n4_ n5_ n6_; (try clear hb); (try clear hb2); (try clear hk); (try clear hi)))
         go_meet
         case rel => exact ⟨_, (true), (by first | rfl | (simp; done) | (simp [*]; done)), H', ⟨by have := HJ7.out; first | omega | exact Nat.le_refl _⟩, ⟨by (with_reducible repeat (first | apply Kd.R_alloc | apply Kd.R_drewN | apply Kd.R_drew)); exact Kd.R_mono HO_4.out (fun _ hk => ⟨hk.2.1, ⟨hk.2.2.2.1, hk.2.2.2.2⟩⟩)⟩, ⟨by (with_reducible repeat (first | apply Kd.R_alloc | apply Kd.R_drewN | apply Kd.R_drew)); exact Kd.R_mono HO_8.out (fun _ hk => ⟨hk.1, ⟨hk.2.2.2.1, hk.2.2.2.2⟩⟩)⟩, ⟨by (with_reducible repeat (first | refine blk_drewN ?_ _ | refine blk_drew ?_ | refine blk_alloc ?_ _)); exact BK447.out⟩, ⟨by (with_reducible repeat (first | refine blk_drewN ?_ _ | refine blk_drew ?_ | refine blk_alloc ?_ _)); exact BK457.out⟩, ⟨by repeat (first | (with_reducible first | exact HB.out | apply below_alloc | apply pw_below_drewN | apply below_drew1 | refine below_set ?_ GE447.out | refine below_set ?_ GE457.out) | exact HB.out)⟩⟩
      case rest =>
       clear HC46
       try clear c1
       try clear c2
       try clear p2
       try clear c3
       try clear c3b0
       try clear c4
       try clear c5
       try clear c6
       try clear c8
       try clear c17
       try clear c18
       try clear c19
       try clear c21
       try clear c23
       try clear c24
       try clear c27
       try clear c33
       try clear c34
       try clear c41
       try clear c44
       try clear c51
       try clear c51b0
       try clear c53
       try clear c55
       try clear c59
       try clear c66
       try clear hcz13_0
       try clear hcz13_1
       try clear hcz19_0
       try clear hcz19_1
       try clear hcz28_0
       try clear hcz28_1
       try clear hcz29_0
       try clear hcz29_1
       try clear hcz35_0
       try clear hcz35_1
       try clear hcz36_0
       try clear hcz36_1
       try clear hcz60_0
       try clear hcz60_1
       try clear hcz61_0
       try clear hcz61_1
       try clear hcz67_0
       try clear hcz67_1
       try clear hcz68_0
       try clear hcz68_1
       try clear hfz13_0
       try clear hfz13_1
       try clear hfz19_0
       try clear hfz19_1
       try clear hfz28_0
       try clear hfz28_1
       try clear hfz29_0
       try clear hfz29_1
       try clear hfz35_0
       try clear hfz35_1
       try clear hfz36_0
       try clear hfz36_1
       try clear hfz60_0
       try clear hfz60_1
       try clear hfz61_0
       try clear hfz61_1
       try clear hfz67_0
       try clear hfz67_1
       try clear hfz68_0
       try clear hfz68_1
       try clear p2
       obtain ⟨kq, x78_45, rfl, HA, HJ45, HO_4, HO_8, BK447, BK457, HB⟩ := hcut
       cases kq with
       | zero => exact absurd HA.out (by simp [laws_FnExactHeapTake.j1])
       | succ kj45 =>
        have H := HA.out
        clear HA
        simp only [laws_FnExactHeapTake.j1] at H
        by_cases c73 : x78_45 = true
        ·
         subst c73
         have H1 : (none) = some r := by rw [if_pos rfl] at H; exact H
         clear H
         have H := H1
         clear H1
         exact absurd H (by simp)
        ·
         replace c73 := Bool.eq_false_iff.mpr c73
         subst c73
         have H1 : ((laws_markTimerS.f kj45 t451 1).bind fun bt468 => ((laws_heldTimerS.f kj45 bt468.2 1).bind fun t470 => (if t470 < 0 then (none) else (if t470 = bt468.1 then ((laws_toTimerS.f kj45 l0).bind fun t471 => ((impl_HeapTake.f kj45 t471).bind fun bt474 => ((laws_eqTimerS.f kj45 bt474.1 t441).bind fun t481 => (if t481 = true then ((laws_eqTimer.f bt474.2.1 bt474.2.2.1 t444 t445).bind fun t482 => (if t482 = true then (laws_FnExactHeapTake.j2 kj45 bt468.2 bt468.1 (bt474.2.2.2 != t446)) else (laws_FnExactHeapTake.j2 kj45 bt468.2 bt468.1 true))) else (laws_FnExactHeapTake.j2 kj45 bt468.2 bt468.1 true))))) else (none))))) = some r := by rw [if_neg (show ¬ (false = true) by decide)] at H; exact H
         clear H
         have H := H1
         clear H1
         replace H := Option.bind_eq_some_iff.mp H
         obtain ⟨⟨t468, t469⟩, A740, H⟩ := H
         replace H : ((laws_heldTimerS.f kj45 t469 1).bind fun t470 => (if t470 < 0 then (none) else (if t470 = t468 then ((laws_toTimerS.f kj45 l0).bind fun t471 => ((impl_HeapTake.f kj45 t471).bind fun bt474 => ((laws_eqTimerS.f kj45 bt474.1 t441).bind fun t481 => (if t481 = true then ((laws_eqTimer.f bt474.2.1 bt474.2.2.1 t444 t445).bind fun t482 => (if t482 = true then (laws_FnExactHeapTake.j2 kj45 t469 t468 (bt474.2.2.2 != t446)) else (laws_FnExactHeapTake.j2 kj45 t469 t468 true))) else (laws_FnExactHeapTake.j2 kj45 t469 t468 true))))) else (none)))) = some r := H
         have A74 := Aside0.mk A740
         clear A740
         replace H := Option.bind_eq_some_iff.mp H
         obtain ⟨t470, A750, H⟩ := H
         replace H : (if t470 < 0 then (none) else (if t470 = t468 then ((laws_toTimerS.f kj45 l0).bind fun t471 => ((impl_HeapTake.f kj45 t471).bind fun bt474 => ((laws_eqTimerS.f kj45 bt474.1 t441).bind fun t481 => (if t481 = true then ((laws_eqTimer.f bt474.2.1 bt474.2.2.1 t444 t445).bind fun t482 => (if t482 = true then (laws_FnExactHeapTake.j2 kj45 t469 t468 (bt474.2.2.2 != t446)) else (laws_FnExactHeapTake.j2 kj45 t469 t468 true))) else (laws_FnExactHeapTake.j2 kj45 t469 t468 true))))) else (none))) = some r := H
         have A75 := Aside0.mk A750
         clear A750
         by_cases c76 : t470 < 0
         ·
          rw [if_pos c76] at H
          exact absurd H (by simp)
         ·
          rw [if_neg c76] at H
          have c76b0 : decide (t470 < 0) = false := decide_eq_false c76
          clear c76
          by_cases c77 : t470 = t468
          ·
           rw [if_pos c77] at H
           have c77b0 : (t470 == t468) = true := beq_iff_eq.mpr c77
           have c77b1 : (t470 != t468) = false := bne_eq_false_iff_eq.mpr c77
           clear c77
           replace H := Option.bind_eq_some_iff.mp H
           obtain ⟨t471, A780, H⟩ := H
           replace H : ((impl_HeapTake.f kj45 t471).bind fun bt474 => ((laws_eqTimerS.f kj45 bt474.1 t441).bind fun t481 => (if t481 = true then ((laws_eqTimer.f bt474.2.1 bt474.2.2.1 t444 t445).bind fun t482 => (if t482 = true then (laws_FnExactHeapTake.j2 kj45 t469 t468 (bt474.2.2.2 != t446)) else (laws_FnExactHeapTake.j2 kj45 t469 t468 true))) else (laws_FnExactHeapTake.j2 kj45 t469 t468 true)))) = some r := H
           have A78 := Aside0.mk A780
           clear A780
           replace H := Option.bind_eq_some_iff.mp H
           obtain ⟨⟨t474, t477, t478, t479⟩, A790, H⟩ := H
           replace H : ((laws_eqTimerS.f kj45 t474 t441).bind fun t481 => (if t481 = true then ((laws_eqTimer.f t477 t478 t444 t445).bind fun t482 => (if t482 = true then (laws_FnExactHeapTake.j2 kj45 t469 t468 (t479 != t446)) else (laws_FnExactHeapTake.j2 kj45 t469 t468 true))) else (laws_FnExactHeapTake.j2 kj45 t469 t468 true))) = some r := H
           have A79 := Aside0.mk A790
           clear A790
           have HC80 := Aside0.mk H
           clear H
           obtain ⟨Ao81, co81, eo81⟩ := Kd.R_slice HO_8.out
           subst eo81
           go_upto_region 25 with (first | ((with_reducible refine gate_callee (f := 24) rfl ?_); refine goesL_ (some 81) rfl rfl Try.func24 (by kernel_rfl) rfl #[.slice Ao81 t451.length co81, .int .i64 1] rfl (by (try simp only [List.map_toArray, List.map_cons, List.map_nil]); first | done | rfl | (simp only [List.length_drop, List.length_take]; rfl)) ?_; (with_reducible refine (laws_markTimerS.calls kj45 (fun k_ => some k_ = (.slice Ao81 t451.length co81 : Value).ownBlock) (.slice Ao81 t451.length co81) t451 1 t468 t469 w _ ?side1 ?side2 A74.out).mono ?_); (case side1 => repeat (first | (with_reducible first | exact HB.out | apply below_alloc | apply pw_below_drewN | apply below_drew1 | refine below_set ?_ GE447.out | refine below_set ?_ GE457.out) | exact HB.out)); (case side2 => exact Kd.R_tight rfl HO_8.out); rintro e w82 ⟨rfl, hy0, hb, hkp⟩; refine ⟨_, rfl, ?_⟩; have n0_ := Aside0.mk (Kd.R_mono (ok' := fun k_ => some k_ ≠ (.slice Ao81 t451.length co81 : Value).ownBlock ∧ k_ ≠ gb447 ∧ k_ ≠ gb457) (Kd.R_keptB (HO_4.out) hkp (fun k_ hk_ hs_ => (hk_.1) hs_)) (fun k_ hk_ => ⟨hk_.1.1, hk_.1.2.1, hk_.1.2.2⟩)); have n1_ := Aside0.mk (Kd.R_reok rfl hy0 (fun k_ e_ => HO_8.out.1 k_ e_)); have n2_ := Aside0.mk (blk_kept (by (with_reducible repeat (first | refine blk_drewN ?_ _ | refine blk_drew ?_ | refine blk_alloc ?_ _)); exact BK447.out) hkp (fun hs_ => (fun e_ => (Kd.R_away HO_8.out (fun _ hk => hk.2.1)) e_) hs_)); have n3_ := Aside0.mk (blk_kept (by (with_reducible repeat (first | refine blk_drewN ?_ _ | refine blk_drew ?_ | refine blk_alloc ?_ _)); exact BK457.out) hkp (fun hs_ => (fun e_ => (Kd.R_away HO_8.out (fun _ hk => hk.2.2)) e_) hs_)); have n4_ := Aside0.mk (hb); clear HO_4; clear HO_8; clear BK447; clear BK457; clear HB; have HO_4 := n0_; have HO_8 := n1_; have BK447 := n2_; have BK457 := n3_; have HB := n4_; clear n0_ n1_ n2_ n3_ n4_; (try clear hb); (try clear hkp); (try clear hy0)) | ((with_reducible refine gate_callee (f := 25) rfl ?_); refine goesL_ (some 84) rfl rfl Try.func25 (by kernel_rfl) rfl #[.slice Ao81 t469.length co81, .int .i64 1] rfl (by (try simp only [List.map_toArray, List.map_cons, List.map_nil]); first | done | (rw [show t469.length = t451.length from (Kd.R_reads' HO_8.out).1.symm] <;> rfl) | rfl | (simp only [List.length_drop, List.length_take]; rfl)) ?_; (with_reducible refine (laws_heldTimerS.calls kj45 _ _ t469 1 t470 _ ?side1 ?side2 A75.out).mono ?_); (case side1 => repeat (first | exact (Kd.R_reads' HO_8.out).2.2 | (with_reducible refine Kd.C_alloc ?_ _) | (with_reducible refine Kd.C_drewN ?_ _) | (with_reducible refine Kd.C_drew ?_))); (case side2 => rw [show t469.length = t451.length from (Kd.R_reads' HO_8.out).1.symm]; exact (Kd.R_reads' HO_8.out).2.1); rintro e w' ⟨rfl, ⟨nd, rfl⟩⟩; refine ⟨_, rfl, ?_⟩; (try (rw [drewN_self w82]; generalize hq_ : World.drewN w82 _ = w82; have n0_ : Aside0 (Kd.R k25 25 w82 w.heap.size (fun k_ => some k_ ≠ (.slice Ao81 t451.length co81 : Value).ownBlock ∧ k_ ≠ gb447 ∧ k_ ≠ gb457) v442 t441) := ⟨by rw [← hq_]; exact (by (with_reducible repeat (first | apply Kd.R_alloc | apply Kd.R_drewN | apply Kd.R_drew)); exact HO_4.out)⟩; have n1_ : Aside0 (Kd.R k25 25 w82 w.heap.size (fun k_ => some k_ ≠ (v442 : Value).ownBlock ∧ k_ ≠ gb447 ∧ k_ ≠ gb457) (.slice Ao81 t451.length co81) t469) := ⟨by rw [← hq_]; exact (by (with_reducible repeat (first | apply Kd.R_alloc | apply Kd.R_drewN | apply Kd.R_drew)); exact HO_8.out)⟩; have n2_ : Aside0 (w82.heap[gb447]? = some (.cells #[.int .i64 t444, .int .i64 t445] 25 (0, 0))) := ⟨by rw [← hq_]; exact (by (with_reducible repeat (first | refine blk_drewN ?_ _ | refine blk_drew ?_ | refine blk_alloc ?_ _)); exact BK447.out)⟩; have n3_ : Aside0 (w82.heap[gb457]? = some (.cells #[.int .i64 t454, .int .i64 t455] 25 (0, 0))) := ⟨by rw [← hq_]; exact (by (with_reducible repeat (first | refine blk_drewN ?_ _ | refine blk_drew ?_ | refine blk_alloc ?_ _)); exact BK457.out)⟩; have n4_ : Aside0 (Below w.heap.size w w82) := ⟨by rw [← hq_]; exact (by repeat (first | (with_reducible first | exact HB.out | apply below_alloc | apply pw_below_drewN | apply below_drew1 | refine below_set ?_ GE447.out | refine below_set ?_ GE457.out) | exact HB.out))⟩; clear HO_4 HO_8 BK447 BK457 HB hq_; have HO_4 := n0_; have HO_8 := n1_; have BK447 := n2_; have BK457 := n3_; have HB := n4_; clear n0_ n1_ n2_ n3_ n4_))) | ((with_reducible refine gate_callee (f := 19) rfl ?_); refine goesL_ (some 92) rfl rfl Try.func19 (by kernel_rfl) rfl #[.slice A0 l0.length c0] rfl (by (try simp only [List.map_toArray, List.map_cons, List.map_nil]); first | done | rfl | (simp only [List.length_drop, List.length_take]; rfl)) ?_; (with_reducible refine (laws_toTimerS.calls kj45 _ _ l0 t471 _ ?side1 ?side2 A78.out).mono ?_); (case side1 => repeat (first | exact (Kd.C_below HR0.out HB.out) | (with_reducible refine Kd.C_alloc ?_ _) | (with_reducible refine Kd.C_drewN ?_ _) | (with_reducible refine Kd.C_drew ?_))); (case side2 => exact HC0.out); rintro e w83 ⟨v472, rfl, ho0, hb⟩; refine ⟨_, rfl, ?_⟩; have n0_ := Aside0.mk (Kd.R_elder' (by (with_reducible repeat (first | apply Kd.R_alloc | apply Kd.R_drewN | apply Kd.R_drew)); exact HO_4.out) (Kd.R_base ho0) hb); have n1_ := Aside0.mk (Kd.R_elder' (by (with_reducible repeat (first | apply Kd.R_alloc | apply Kd.R_drewN | apply Kd.R_drew)); exact HO_8.out) (Kd.R_base ho0) hb); have n2_ := Aside0.mk (Kd.R_lower (Kd.R_newB (Kd.R_newB (Kd.R_new' (Kd.R_new' ho0 (Kd.R_lt (by (with_reducible repeat (first | apply Kd.R_alloc | apply Kd.R_drewN | apply Kd.R_drew)); exact HO_4.out))) (Kd.R_lt (by (with_reducible repeat (first | apply Kd.R_alloc | apply Kd.R_drewN | apply Kd.R_drew)); exact HO_8.out))) (g := gb447) (o := .cells #[.int .i64 t444, .int .i64 t445] 25 (0, 0)) (by (with_reducible repeat (first | refine blk_drewN ?_ _ | refine blk_drew ?_ | refine blk_alloc ?_ _)); exact BK447.out)) (g := gb457) (o := .cells #[.int .i64 t454, .int .i64 t455] 25 (0, 0)) (by (with_reducible repeat (first | refine blk_drewN ?_ _ | refine blk_drew ?_ | refine blk_alloc ?_ _)); exact BK457.out)) (below_size (by repeat (first | (with_reducible first | exact HB.out | apply below_alloc | apply pw_below_drewN | apply below_drew1 | refine below_set ?_ GE447.out | refine below_set ?_ GE457.out) | exact HB.out)))); have n3_ := Aside0.mk (blk_below (g := gb447) (o := .cells #[.int .i64 t444, .int .i64 t445] 25 (0, 0)) (by (with_reducible repeat (first | refine blk_drewN ?_ _ | refine blk_drew ?_ | refine blk_alloc ?_ _)); exact BK447.out) hb); have n4_ := Aside0.mk (blk_below (g := gb457) (o := .cells #[.int .i64 t454, .int .i64 t455] 25 (0, 0)) (by (with_reducible repeat (first | refine blk_drewN ?_ _ | refine blk_drew ?_ | refine blk_alloc ?_ _)); exact BK457.out) hb); have n5_ := Aside0.mk (below_step (by repeat (first | (with_reducible first | exact HB.out | apply below_alloc | apply pw_below_drewN | apply below_drew1 | refine below_set ?_ GE447.out | refine below_set ?_ GE457.out) | exact HB.out)) hb); clear HO_4; clear HO_8; clear BK447; clear BK457; clear HB; have HO_4 := n0_; have HO_8 := n1_; have HO473 := n2_; have BK447 := n3_; have BK457 := n4_; have HB := n5_; clear n0_ n1_ n2_ n3_ n4_ n5_; (try clear hb); (try clear hb2); (try clear hk); (try clear hi); (try clear ho0); obtain ⟨Ao84, co84, eo84⟩ := Kd.R_slice HO473.out; subst eo84) | ((with_reducible refine gate_callee (f := 34) rfl ?_); refine goesL_ (some 93) rfl rfl Try.func34 (by kernel_rfl) rfl #[.slice Ao84 t471.length co84] rfl (by (try simp only [List.map_toArray, List.map_cons, List.map_nil]); first | done | rfl | (simp only [List.length_drop, List.length_take]; rfl)) ?_; (with_reducible refine (impl_HeapTake.calls kj45 _ _ t471 t474 t477 t478 t479 _ ?side1 ?side2 A79.out).mono ?_); (case side1 => repeat (first | exact (Kd.R_reads' HO473.out).2.2 | (with_reducible refine Kd.C_alloc ?_ _) | (with_reducible refine Kd.C_drewN ?_ _) | (with_reducible refine Kd.C_drew ?_))); (case side2 => exact (Kd.R_reads' HO473.out).2.1); rintro e w85 ⟨v475, rfl, ho0, hb⟩; refine ⟨_, rfl, ?_⟩; have n0_ := Aside0.mk (Kd.R_elder' (by (with_reducible repeat (first | apply Kd.R_alloc | apply Kd.R_drewN | apply Kd.R_drew)); exact HO_4.out) (Kd.R_base ho0) hb); have n1_ := Aside0.mk (Kd.R_elder' (by (with_reducible repeat (first | apply Kd.R_alloc | apply Kd.R_drewN | apply Kd.R_drew)); exact HO_8.out) (Kd.R_base ho0) hb); have n2_ := Aside0.mk (Kd.R_elder' (by (with_reducible repeat (first | apply Kd.R_alloc | apply Kd.R_drewN | apply Kd.R_drew)); exact HO473.out) (Kd.R_base ho0) hb); have n3_ := Aside0.mk (Kd.R_lower (Kd.R_newB (Kd.R_newB (Kd.R_new' (Kd.R_new' (Kd.R_new' ho0 (Kd.R_lt (by (with_reducible repeat (first | apply Kd.R_alloc | apply Kd.R_drewN | apply Kd.R_drew)); exact HO_4.out))) (Kd.R_lt (by (with_reducible repeat (first | apply Kd.R_alloc | apply Kd.R_drewN | apply Kd.R_drew)); exact HO_8.out))) (Kd.R_lt (by (with_reducible repeat (first | apply Kd.R_alloc | apply Kd.R_drewN | apply Kd.R_drew)); exact HO473.out))) (g := gb447) (o := .cells #[.int .i64 t444, .int .i64 t445] 25 (0, 0)) (by (with_reducible repeat (first | refine blk_drewN ?_ _ | refine blk_drew ?_ | refine blk_alloc ?_ _)); exact BK447.out)) (g := gb457) (o := .cells #[.int .i64 t454, .int .i64 t455] 25 (0, 0)) (by (with_reducible repeat (first | refine blk_drewN ?_ _ | refine blk_drew ?_ | refine blk_alloc ?_ _)); exact BK457.out)) (below_size (by repeat (first | (with_reducible first | exact HB.out | apply below_alloc | apply pw_below_drewN | apply below_drew1 | refine below_set ?_ GE447.out | refine below_set ?_ GE457.out) | exact HB.out)))); have n4_ := Aside0.mk (blk_below (g := gb447) (o := .cells #[.int .i64 t444, .int .i64 t445] 25 (0, 0)) (by (with_reducible repeat (first | refine blk_drewN ?_ _ | refine blk_drew ?_ | refine blk_alloc ?_ _)); exact BK447.out) hb); have n5_ := Aside0.mk (blk_below (g := gb457) (o := .cells #[.int .i64 t454, .int .i64 t455] 25 (0, 0)) (by (with_reducible repeat (first | refine blk_drewN ?_ _ | refine blk_drew ?_ | refine blk_alloc ?_ _)); exact BK457.out) hb); have n6_ := Aside0.mk (below_step (by repeat (first | (with_reducible first | exact HB.out | apply below_alloc | apply pw_below_drewN | apply below_drew1 | refine below_set ?_ GE447.out | refine below_set ?_ GE457.out) | exact HB.out)) hb); clear HO_4; clear HO_8; clear HO473; clear BK447; clear BK457; clear HB; have HO_4 := n0_; have HO_8 := n1_; have HO473 := n2_; have HO476 := n3_; have BK447 := n4_; have BK457 := n5_; have HB := n6_; clear n0_ n1_ n2_ n3_ n4_ n5_ n6_; (try clear hb); (try clear hb2); (try clear hk); (try clear hi); (try clear ho0)) | ((with_reducible refine gate_dst (N := 15) rfl ?_); refine box_event ?hg (N := 15) ?hd (cs := #[.int .i64 0, .int .i64 0]) (t := 25) ?hr ?_; (case hd => rfl); (case hg => rfl); (case hr => first | (go_simp; done) | (go_simp; rfl)); intro gb480 hg w86 hbox hb; have n0_ := Aside0.mk (Kd.R_below (Kd.R_elderB (by (with_reducible repeat (first | apply Kd.R_alloc | apply Kd.R_drewN | apply Kd.R_drew)); exact HO_4.out) gb480 (Nat.le_of_eq hg.symm)) hb); have n1_ := Aside0.mk (Kd.R_below (Kd.R_elderB (by (with_reducible repeat (first | apply Kd.R_alloc | apply Kd.R_drewN | apply Kd.R_drew)); exact HO_8.out) gb480 (Nat.le_of_eq hg.symm)) hb); have n2_ := Aside0.mk (Kd.R_below (Kd.R_elderB (by (with_reducible repeat (first | apply Kd.R_alloc | apply Kd.R_drewN | apply Kd.R_drew)); exact HO473.out) gb480 (Nat.le_of_eq hg.symm)) hb); have n3_ := Aside0.mk (Kd.R_below (Kd.R_elderB (by (with_reducible repeat (first | apply Kd.R_alloc | apply Kd.R_drewN | apply Kd.R_drew)); exact HO476.out) gb480 (Nat.le_of_eq hg.symm)) hb); have n4_ := Aside0.mk (blk_below (g := gb447) (o := .cells #[.int .i64 t444, .int .i64 t445] 25 (0, 0)) (by (with_reducible repeat (first | refine blk_drewN ?_ _ | refine blk_drew ?_ | refine blk_alloc ?_ _)); exact BK447.out) hb); have n5_ := Aside0.mk (blk_below (g := gb457) (o := .cells #[.int .i64 t454, .int .i64 t455] 25 (0, 0)) (by (with_reducible repeat (first | refine blk_drewN ?_ _ | refine blk_drew ?_ | refine blk_alloc ?_ _)); exact BK457.out) hb); have n6_ := Aside0.mk (below_step (by repeat (first | (with_reducible first | exact HB.out | apply below_alloc | apply pw_below_drewN | apply below_drew1 | refine below_set ?_ GE447.out | refine below_set ?_ GE457.out) | exact HB.out)) hb); have n7_ := Aside0.mk (hbox); have n8_ := Aside0.mk ((by rw [hg]; exact (below_size (by repeat (first | (with_reducible first | exact HB.out | apply below_alloc | apply pw_below_drewN | apply below_drew1 | refine below_set ?_ GE447.out | refine below_set ?_ GE457.out) | exact HB.out))) : w.heap.size ≤ gb480)); have n9_ := Aside0.mk ((by rw [hg]; exact (below_size (by repeat (first | (with_reducible first | exact HB.out | apply below_alloc | apply pw_below_drewN | apply below_drew1 | refine below_set ?_ GE447.out | refine below_set ?_ GE457.out) | exact HB.out))) : w.heap.size ≤ gb480)); have n10_ := Aside0.mk ((by rw [hg]; exact Nat.ne_of_lt (blk_lt (g := gb447) (o := .cells #[.int .i64 t444, .int .i64 t445] 25 (0, 0)) (by (with_reducible repeat (first | refine blk_drewN ?_ _ | refine blk_drew ?_ | refine blk_alloc ?_ _)); exact BK447.out)) : gb447 ≠ gb480)); have n11_ := Aside0.mk ((by rw [hg]; exact Nat.ne_of_gt (blk_lt (g := gb447) (o := .cells #[.int .i64 t444, .int .i64 t445] 25 (0, 0)) (by (with_reducible repeat (first | refine blk_drewN ?_ _ | refine blk_drew ?_ | refine blk_alloc ?_ _)); exact BK447.out)) : gb480 ≠ gb447)); have n12_ := Aside0.mk ((by rw [hg]; exact Nat.ne_of_lt (blk_lt (g := gb457) (o := .cells #[.int .i64 t454, .int .i64 t455] 25 (0, 0)) (by (with_reducible repeat (first | refine blk_drewN ?_ _ | refine blk_drew ?_ | refine blk_alloc ?_ _)); exact BK457.out)) : gb457 ≠ gb480)); have n13_ := Aside0.mk ((by rw [hg]; exact Nat.ne_of_gt (blk_lt (g := gb457) (o := .cells #[.int .i64 t454, .int .i64 t455] 25 (0, 0)) (by (with_reducible repeat (first | refine blk_drewN ?_ _ | refine blk_drew ?_ | refine blk_alloc ?_ _)); exact BK457.out)) : gb480 ≠ gb457)); clear HO_4; clear HO_8; clear HO473; clear HO476; clear BK447; clear BK457; clear HB; have HO_4 := n0_; have HO_8 := n1_; have HO473 := n2_; have HO476 := n3_; have BK447 := n4_; have BK457 := n5_; have HB := n6_; have BK480 := n7_; have GW480 := n8_; have GE480 := n9_; have NB447_480 := n10_; have NB480_447 := n11_; have NB457_480 := n12_; have NB480_457 := n13_; clear n0_ n1_ n2_ n3_ n4_ n5_ n6_ n7_ n8_ n9_ n10_ n11_ n12_ n13_; clear hb hbox hg; have hnb87 := NB480_447.out; have hnc87 := NB447_480.out; have hnb88 := NB480_457.out; have hnc88 := NB457_480.out; have hcz89_0 : w86.cell? ⟨gb480, 0, none⟩ = some (.int .i64 0) := (blk_cell BK480.out 0).trans rfl; have hcz89_1 : w86.cell? ⟨gb480, 1, none⟩ = some (.int .i64 0) := (blk_cell BK480.out 1).trans rfl; have hfz89_0 := blk_frozen BK480.out 0; have hfz89_1 := blk_frozen BK480.out 1))
           (try simp only [Act.put, List.setIfInBounds_toArray, List.set_cons_zero, List.set_cons_succ])
           go_cut [111] (fun v111 wc => ∃ (kq : Nat) (x111_79 : Bool), v111 = .bool x111_79 ∧ Aside0 (laws_FnExactHeapTake.j2 kq t469 t468 x111_79 = some r) ∧ Aside0 (kq ≤ kj45) ∧ Aside0 (Kd.R k25 25 wc w.heap.size (fun k_ => k_ ≠ gb447 ∧ k_ ≠ gb457 ∧ k_ ≠ gb480) (.slice Ao81 t451.length co81) t469) ∧ Aside0 (wc.heap[gb447]? = some (.cells #[.int .i64 t444, .int .i64 t445] 25 (0, 0))) ∧ Aside0 (wc.heap[gb457]? = some (.cells #[.int .i64 t454, .int .i64 t455] 25 (0, 0))) ∧ Aside0 (wc.heap[gb480]? = some (.cells #[.int .i64 t477, .int .i64 t478] 25 (0, 0))) ∧ Aside0 (Below w.heap.size w wc))
           case first =>
            have H := HC80.out
            clear HC80
            replace H := Option.bind_eq_some_iff.mp H
            obtain ⟨t481, A900, H⟩ := H
            replace H : (if t481 = true then ((laws_eqTimer.f t477 t478 t444 t445).bind fun t482 => (if t482 = true then (laws_FnExactHeapTake.j2 kj45 t469 t468 (t479 != t446)) else (laws_FnExactHeapTake.j2 kj45 t469 t468 true))) else (laws_FnExactHeapTake.j2 kj45 t469 t468 true)) = some r := H
            have A90 := Aside0.mk A900
            clear A900
            by_cases c91 : t481 = true
            ·
             subst c91
             have H1 : ((laws_eqTimer.f t477 t478 t444 t445).bind fun t482 => (if t482 = true then (laws_FnExactHeapTake.j2 kj45 t469 t468 (t479 != t446)) else (laws_FnExactHeapTake.j2 kj45 t469 t468 true))) = some r := by rw [if_pos rfl] at H; exact H
             clear H
             have H := H1
             clear H1
             replace H := Option.bind_eq_some_iff.mp H
             obtain ⟨t482, A920, H⟩ := H
             replace H : (if t482 = true then (laws_FnExactHeapTake.j2 kj45 t469 t468 (t479 != t446)) else (laws_FnExactHeapTake.j2 kj45 t469 t468 true)) = some r := H
             have A92 := Aside0.mk A920
             clear A920
             by_cases c93 : t482 = true
             ·
              subst c93
              have H1 : (laws_FnExactHeapTake.j2 kj45 t469 t468 (t479 != t446)) = some r := by rw [if_pos rfl] at H; exact H
              clear H
              have H := H1
              clear H1
              have H' := Aside0.mk H
              clear H
              obtain ⟨Ao94, co94, eo94⟩ := Kd.R_slice HO476.out
              subst eo94
              obtain ⟨Ao95, co95, eo95⟩ := Kd.R_slice HO_4.out
              subst eo95
              go_wp2_with (first | ((with_reducible refine gate_callee (f := 21) rfl ?_); refine goesL_ (some 99) rfl rfl Try.func21 (by kernel_rfl) rfl #[.slice Ao94 t474.length co94, .slice Ao95 t441.length co95] rfl (by (try simp only [List.map_toArray, List.map_cons, List.map_nil]); first | done | rfl | (simp only [List.length_drop, List.length_take]; rfl)) ?_; (with_reducible refine (laws_eqTimerS.calls kj45 _ _ t474 _ _ t441 true _ ?side1 ?side2 ?side3 ?side4 A90.out).mono ?_); (case side1 => refine (Kd.R_reads' (e := 25) (base := w.heap.size) (ok := fun k_ => ((((((True ∧ some k_ ≠ (.slice Ao95 t441.length co95 : Value).ownBlock) ∧ some k_ ≠ (.slice Ao81 t451.length co81 : Value).ownBlock) ∧ some k_ ≠ (.slice Ao84 t471.length co84 : Value).ownBlock) ∧ k_ ≠ gb447) ∧ k_ ≠ gb457) ∧ k_ ≠ gb480)) (n := t474.length) (c := co94) ?_).2.2; exact (by (with_reducible repeat (first | apply Kd.R_alloc | apply Kd.R_drewN | apply Kd.R_drew)); exact (Kd.R_mono (Kd.R_far (p := ⟨gb480, 1, none⟩) (Kd.R_far (p := ⟨gb480, 0, none⟩) (Kd.R_mono HO476.out (fun k_ hk => (⟨hk, hk.2⟩ : _ ∧ k_ ≠ gb480))) (fun _ hk => hk.2) (.int .i64 t477)) (fun _ hk => hk.2) (.int .i64 t478)) (fun _ h_ => h_.1)))); (case side2 => exact (Kd.R_reads' HO476.out).2.1); (case side3 => refine (Kd.R_reads' (e := 25) (base := w.heap.size) (ok := fun k_ => ((((some k_ ≠ (.slice Ao81 t451.length co81 : Value).ownBlock ∧ (k_ ≠ gb447 ∧ k_ ≠ gb457)) ∧ some k_ ≠ (.slice Ao84 t471.length co84 : Value).ownBlock) ∧ some k_ ≠ (.slice Ao94 t474.length co94 : Value).ownBlock) ∧ k_ ≠ gb480)) (n := t441.length) (c := co95) ?_).2.2; exact (by (with_reducible repeat (first | apply Kd.R_alloc | apply Kd.R_drewN | apply Kd.R_drew)); exact (Kd.R_mono (Kd.R_far (p := ⟨gb480, 1, none⟩) (Kd.R_far (p := ⟨gb480, 0, none⟩) (Kd.R_mono HO_4.out (fun k_ hk => (⟨hk, hk.2⟩ : _ ∧ k_ ≠ gb480))) (fun _ hk => hk.2) (.int .i64 t477)) (fun _ hk => hk.2) (.int .i64 t478)) (fun _ h_ => h_.1)))); (case side4 => exact (Kd.R_reads' HO_4.out).2.1); rintro e w96 ⟨rfl, hb⟩; refine ⟨_, rfl, ?_⟩; have n0_ := Aside0.mk (Kd.R_below (by (with_reducible repeat (first | apply Kd.R_alloc | apply Kd.R_drewN | apply Kd.R_drew)); exact (Kd.R_mono (Kd.R_far (p := ⟨gb480, 1, none⟩) (Kd.R_far (p := ⟨gb480, 0, none⟩) (Kd.R_mono HO_4.out (fun k_ hk => (⟨hk, hk.2⟩ : _ ∧ k_ ≠ gb480))) (fun _ hk => hk.2) (.int .i64 t477)) (fun _ hk => hk.2) (.int .i64 t478)) (fun _ h_ => h_.1))) hb); have n1_ := Aside0.mk (Kd.R_below (by (with_reducible repeat (first | apply Kd.R_alloc | apply Kd.R_drewN | apply Kd.R_drew)); exact (Kd.R_mono (Kd.R_far (p := ⟨gb480, 1, none⟩) (Kd.R_far (p := ⟨gb480, 0, none⟩) (Kd.R_mono HO_8.out (fun k_ hk => (⟨hk, hk.2⟩ : _ ∧ k_ ≠ gb480))) (fun _ hk => hk.2) (.int .i64 t477)) (fun _ hk => hk.2) (.int .i64 t478)) (fun _ h_ => h_.1))) hb); have n2_ := Aside0.mk (Kd.R_below (by (with_reducible repeat (first | apply Kd.R_alloc | apply Kd.R_drewN | apply Kd.R_drew)); exact (Kd.R_mono (Kd.R_far (p := ⟨gb480, 1, none⟩) (Kd.R_far (p := ⟨gb480, 0, none⟩) (Kd.R_mono HO473.out (fun k_ hk => (⟨hk, hk.2⟩ : _ ∧ k_ ≠ gb480))) (fun _ hk => hk.2) (.int .i64 t477)) (fun _ hk => hk.2) (.int .i64 t478)) (fun _ h_ => h_.1))) hb); have n3_ := Aside0.mk (Kd.R_below (by (with_reducible repeat (first | apply Kd.R_alloc | apply Kd.R_drewN | apply Kd.R_drew)); exact (Kd.R_mono (Kd.R_far (p := ⟨gb480, 1, none⟩) (Kd.R_far (p := ⟨gb480, 0, none⟩) (Kd.R_mono HO476.out (fun k_ hk => (⟨hk, hk.2⟩ : _ ∧ k_ ≠ gb480))) (fun _ hk => hk.2) (.int .i64 t477)) (fun _ hk => hk.2) (.int .i64 t478)) (fun _ h_ => h_.1))) hb); have n4_ := Aside0.mk (blk_below (g := gb447) (o := .cells #[.int .i64 t444, .int .i64 t445] 25 (0, 0)) (by (with_reducible repeat (first | refine blk_drewN ?_ _ | refine blk_drew ?_ | refine blk_alloc ?_ _)); refine blk_far ?_ NB447_480.out _; (with_reducible repeat (first | refine blk_drewN ?_ _ | refine blk_drew ?_ | refine blk_alloc ?_ _)); refine blk_far ?_ NB447_480.out _; (with_reducible repeat (first | refine blk_drewN ?_ _ | refine blk_drew ?_ | refine blk_alloc ?_ _)); exact BK447.out) hb); have n5_ := Aside0.mk (blk_below (g := gb457) (o := .cells #[.int .i64 t454, .int .i64 t455] 25 (0, 0)) (by (with_reducible repeat (first | refine blk_drewN ?_ _ | refine blk_drew ?_ | refine blk_alloc ?_ _)); refine blk_far ?_ NB457_480.out _; (with_reducible repeat (first | refine blk_drewN ?_ _ | refine blk_drew ?_ | refine blk_alloc ?_ _)); refine blk_far ?_ NB457_480.out _; (with_reducible repeat (first | refine blk_drewN ?_ _ | refine blk_drew ?_ | refine blk_alloc ?_ _)); exact BK457.out) hb); have n6_ := Aside0.mk (blk_below (g := gb480) (o := .cells #[.int .i64 t477, .int .i64 t478] 25 (0, 0)) (by (with_reducible repeat (first | refine blk_drewN ?_ _ | refine blk_drew ?_ | refine blk_alloc ?_ _)); refine blk_put (cs := #[.int .i64 t477, .int .i64 0]) ?_ 1 _ rfl; (with_reducible repeat (first | refine blk_drewN ?_ _ | refine blk_drew ?_ | refine blk_alloc ?_ _)); refine blk_put (cs := #[.int .i64 0, .int .i64 0]) ?_ 0 _ rfl; (with_reducible repeat (first | refine blk_drewN ?_ _ | refine blk_drew ?_ | refine blk_alloc ?_ _)); exact BK480.out) hb); have n7_ := Aside0.mk (below_step (by repeat (first | (with_reducible first | exact HB.out | apply below_alloc | apply pw_below_drewN | apply below_drew1 | refine below_set ?_ GE447.out | refine below_set ?_ GE457.out | refine below_set ?_ GE480.out) | exact HB.out)) hb); clear HO_4; clear HO_8; clear HO473; clear HO476; clear BK447; clear BK457; clear BK480; clear HB; have HO_4 := n0_; have HO_8 := n1_; have HO473 := n2_; have HO476 := n3_; have BK447 := n4_; have BK457 := n5_; have BK480 := n6_; have HB := n7_; clear n0_ n1_ n2_ n3_ n4_ n5_ n6_ n7_; (try clear hb); (try clear hb2); (try clear hk); (try clear hi); have hnb97 := NB480_447.out; have hnc97 := NB447_480.out; have hnb98 := NB480_457.out; have hnc98 := NB457_480.out; have hcz99_0 : w96.cell? ⟨gb480, 0, none⟩ = some (.int .i64 t477) := (blk_cell BK480.out 0).trans rfl; have hcz99_1 : w96.cell? ⟨gb480, 1, none⟩ = some (.int .i64 t478) := (blk_cell BK480.out 1).trans rfl; have hfz99_0 := blk_frozen BK480.out 0; have hfz99_1 := blk_frozen BK480.out 1; have hnb100 := NB447_457.out; have hnc100 := NB457_447.out; have hcz101_0 : w96.cell? ⟨gb447, 0, none⟩ = some (.int .i64 t444) := (blk_cell BK447.out 0).trans rfl; have hcz101_1 : w96.cell? ⟨gb447, 1, none⟩ = some (.int .i64 t445) := (blk_cell BK447.out 1).trans rfl; have hfz101_0 := blk_frozen BK447.out 0; have hfz101_1 := blk_frozen BK447.out 1) | (go_at_call 35; (with_reducible refine (laws_eqTimer.calls t477 t478 t444 t445 true _ A92.out).mono ?_); rintro e w102 ⟨rfl, hb⟩; have n0_ := Aside0.mk (Kd.R_below (by (with_reducible repeat (first | apply Kd.R_alloc | apply Kd.R_drewN | apply Kd.R_drew)); exact HO_4.out) hb); have n1_ := Aside0.mk (Kd.R_below (by (with_reducible repeat (first | apply Kd.R_alloc | apply Kd.R_drewN | apply Kd.R_drew)); exact HO_8.out) hb); have n2_ := Aside0.mk (Kd.R_below (by (with_reducible repeat (first | apply Kd.R_alloc | apply Kd.R_drewN | apply Kd.R_drew)); exact HO473.out) hb); have n3_ := Aside0.mk (Kd.R_below (by (with_reducible repeat (first | apply Kd.R_alloc | apply Kd.R_drewN | apply Kd.R_drew)); exact HO476.out) hb); have n4_ := Aside0.mk (blk_below (g := gb447) (o := .cells #[.int .i64 t444, .int .i64 t445] 25 (0, 0)) (by (with_reducible repeat (first | refine blk_drewN ?_ _ | refine blk_drew ?_ | refine blk_alloc ?_ _)); exact BK447.out) hb); have n5_ := Aside0.mk (blk_below (g := gb457) (o := .cells #[.int .i64 t454, .int .i64 t455] 25 (0, 0)) (by (with_reducible repeat (first | refine blk_drewN ?_ _ | refine blk_drew ?_ | refine blk_alloc ?_ _)); exact BK457.out) hb); have n6_ := Aside0.mk (blk_below (g := gb480) (o := .cells #[.int .i64 t477, .int .i64 t478] 25 (0, 0)) (by (with_reducible repeat (first | refine blk_drewN ?_ _ | refine blk_drew ?_ | refine blk_alloc ?_ _)); exact BK480.out) hb); have n7_ := Aside0.mk (below_step (by repeat (first | (with_reducible first | exact HB.out | apply below_alloc | apply pw_below_drewN | apply below_drew1 | refine below_set ?_ GE447.out | refine below_set ?_ GE457.out | refine below_set ?_ GE480.out) | exact HB.out)) hb); clear HO_4; clear HO_8; clear HO473; clear HO476; clear BK447; clear BK457; clear BK480; clear HB; have HO_4 := n0_; have HO_8 := n1_; have HO473 := n2_; have HO476 := n3_; have BK447 := n4_; have BK457 := n5_; have BK480 := n6_; have HB := n7_; clear n0_ n1_ n2_ n3_ n4_ n5_ n6_ n7_; (try clear hb); (try clear hb2); (try clear hk); (try clear hi)))
              go_meet
              case rel => exact ⟨_, ((t479 != t446)), (by first | rfl | (simp; done) | (simp [*]; done)), H', ⟨by have := HJ7.out; have := HJ45.out; first | omega | exact Nat.le_refl _⟩, ⟨by (with_reducible repeat (first | apply Kd.R_alloc | apply Kd.R_drewN | apply Kd.R_drew)); exact Kd.R_mono HO_8.out (fun _ hk => ⟨hk.1.1.1.2.1, ⟨hk.1.1.1.2.2, hk.2⟩⟩)⟩, ⟨by (with_reducible repeat (first | refine blk_drewN ?_ _ | refine blk_drew ?_ | refine blk_alloc ?_ _)); exact BK447.out⟩, ⟨by (with_reducible repeat (first | refine blk_drewN ?_ _ | refine blk_drew ?_ | refine blk_alloc ?_ _)); exact BK457.out⟩, ⟨by (with_reducible repeat (first | refine blk_drewN ?_ _ | refine blk_drew ?_ | refine blk_alloc ?_ _)); exact BK480.out⟩, ⟨by repeat (first | (with_reducible first | exact HB.out | apply below_alloc | apply pw_below_drewN | apply below_drew1 | refine below_set ?_ GE447.out | refine below_set ?_ GE457.out | refine below_set ?_ GE480.out) | exact HB.out)⟩⟩
             ·
              replace c93 := Bool.eq_false_iff.mpr c93
              subst c93
              have H1 : (laws_FnExactHeapTake.j2 kj45 t469 t468 true) = some r := by rw [if_neg (show ¬ (false = true) by decide)] at H; exact H
              clear H
              have H := H1
              clear H1
              have H' := Aside0.mk H
              clear H
              obtain ⟨Ao103, co103, eo103⟩ := Kd.R_slice HO476.out
              subst eo103
              obtain ⟨Ao104, co104, eo104⟩ := Kd.R_slice HO_4.out
              subst eo104
              go_wp2_with (first | ((with_reducible refine gate_callee (f := 21) rfl ?_); refine goesL_ (some 99) rfl rfl Try.func21 (by kernel_rfl) rfl #[.slice Ao103 t474.length co103, .slice Ao104 t441.length co104] rfl (by (try simp only [List.map_toArray, List.map_cons, List.map_nil]); first | done | rfl | (simp only [List.length_drop, List.length_take]; rfl)) ?_; (with_reducible refine (laws_eqTimerS.calls kj45 _ _ t474 _ _ t441 true _ ?side1 ?side2 ?side3 ?side4 A90.out).mono ?_); (case side1 => refine (Kd.R_reads' (e := 25) (base := w.heap.size) (ok := fun k_ => ((((((True ∧ some k_ ≠ (.slice Ao104 t441.length co104 : Value).ownBlock) ∧ some k_ ≠ (.slice Ao81 t451.length co81 : Value).ownBlock) ∧ some k_ ≠ (.slice Ao84 t471.length co84 : Value).ownBlock) ∧ k_ ≠ gb447) ∧ k_ ≠ gb457) ∧ k_ ≠ gb480)) (n := t474.length) (c := co103) ?_).2.2; exact (by (with_reducible repeat (first | apply Kd.R_alloc | apply Kd.R_drewN | apply Kd.R_drew)); exact (Kd.R_mono (Kd.R_far (p := ⟨gb480, 1, none⟩) (Kd.R_far (p := ⟨gb480, 0, none⟩) (Kd.R_mono HO476.out (fun k_ hk => (⟨hk, hk.2⟩ : _ ∧ k_ ≠ gb480))) (fun _ hk => hk.2) (.int .i64 t477)) (fun _ hk => hk.2) (.int .i64 t478)) (fun _ h_ => h_.1)))); (case side2 => exact (Kd.R_reads' HO476.out).2.1); (case side3 => refine (Kd.R_reads' (e := 25) (base := w.heap.size) (ok := fun k_ => ((((some k_ ≠ (.slice Ao81 t451.length co81 : Value).ownBlock ∧ (k_ ≠ gb447 ∧ k_ ≠ gb457)) ∧ some k_ ≠ (.slice Ao84 t471.length co84 : Value).ownBlock) ∧ some k_ ≠ (.slice Ao103 t474.length co103 : Value).ownBlock) ∧ k_ ≠ gb480)) (n := t441.length) (c := co104) ?_).2.2; exact (by (with_reducible repeat (first | apply Kd.R_alloc | apply Kd.R_drewN | apply Kd.R_drew)); exact (Kd.R_mono (Kd.R_far (p := ⟨gb480, 1, none⟩) (Kd.R_far (p := ⟨gb480, 0, none⟩) (Kd.R_mono HO_4.out (fun k_ hk => (⟨hk, hk.2⟩ : _ ∧ k_ ≠ gb480))) (fun _ hk => hk.2) (.int .i64 t477)) (fun _ hk => hk.2) (.int .i64 t478)) (fun _ h_ => h_.1)))); (case side4 => exact (Kd.R_reads' HO_4.out).2.1); rintro e w105 ⟨rfl, hb⟩; refine ⟨_, rfl, ?_⟩; have n0_ := Aside0.mk (Kd.R_below (by (with_reducible repeat (first | apply Kd.R_alloc | apply Kd.R_drewN | apply Kd.R_drew)); exact (Kd.R_mono (Kd.R_far (p := ⟨gb480, 1, none⟩) (Kd.R_far (p := ⟨gb480, 0, none⟩) (Kd.R_mono HO_4.out (fun k_ hk => (⟨hk, hk.2⟩ : _ ∧ k_ ≠ gb480))) (fun _ hk => hk.2) (.int .i64 t477)) (fun _ hk => hk.2) (.int .i64 t478)) (fun _ h_ => h_.1))) hb); have n1_ := Aside0.mk (Kd.R_below (by (with_reducible repeat (first | apply Kd.R_alloc | apply Kd.R_drewN | apply Kd.R_drew)); exact (Kd.R_mono (Kd.R_far (p := ⟨gb480, 1, none⟩) (Kd.R_far (p := ⟨gb480, 0, none⟩) (Kd.R_mono HO_8.out (fun k_ hk => (⟨hk, hk.2⟩ : _ ∧ k_ ≠ gb480))) (fun _ hk => hk.2) (.int .i64 t477)) (fun _ hk => hk.2) (.int .i64 t478)) (fun _ h_ => h_.1))) hb); have n2_ := Aside0.mk (Kd.R_below (by (with_reducible repeat (first | apply Kd.R_alloc | apply Kd.R_drewN | apply Kd.R_drew)); exact (Kd.R_mono (Kd.R_far (p := ⟨gb480, 1, none⟩) (Kd.R_far (p := ⟨gb480, 0, none⟩) (Kd.R_mono HO473.out (fun k_ hk => (⟨hk, hk.2⟩ : _ ∧ k_ ≠ gb480))) (fun _ hk => hk.2) (.int .i64 t477)) (fun _ hk => hk.2) (.int .i64 t478)) (fun _ h_ => h_.1))) hb); have n3_ := Aside0.mk (Kd.R_below (by (with_reducible repeat (first | apply Kd.R_alloc | apply Kd.R_drewN | apply Kd.R_drew)); exact (Kd.R_mono (Kd.R_far (p := ⟨gb480, 1, none⟩) (Kd.R_far (p := ⟨gb480, 0, none⟩) (Kd.R_mono HO476.out (fun k_ hk => (⟨hk, hk.2⟩ : _ ∧ k_ ≠ gb480))) (fun _ hk => hk.2) (.int .i64 t477)) (fun _ hk => hk.2) (.int .i64 t478)) (fun _ h_ => h_.1))) hb); have n4_ := Aside0.mk (blk_below (g := gb447) (o := .cells #[.int .i64 t444, .int .i64 t445] 25 (0, 0)) (by (with_reducible repeat (first | refine blk_drewN ?_ _ | refine blk_drew ?_ | refine blk_alloc ?_ _)); refine blk_far ?_ NB447_480.out _; (with_reducible repeat (first | refine blk_drewN ?_ _ | refine blk_drew ?_ | refine blk_alloc ?_ _)); refine blk_far ?_ NB447_480.out _; (with_reducible repeat (first | refine blk_drewN ?_ _ | refine blk_drew ?_ | refine blk_alloc ?_ _)); exact BK447.out) hb); have n5_ := Aside0.mk (blk_below (g := gb457) (o := .cells #[.int .i64 t454, .int .i64 t455] 25 (0, 0)) (by (with_reducible repeat (first | refine blk_drewN ?_ _ | refine blk_drew ?_ | refine blk_alloc ?_ _)); refine blk_far ?_ NB457_480.out _; (with_reducible repeat (first | refine blk_drewN ?_ _ | refine blk_drew ?_ | refine blk_alloc ?_ _)); refine blk_far ?_ NB457_480.out _; (with_reducible repeat (first | refine blk_drewN ?_ _ | refine blk_drew ?_ | refine blk_alloc ?_ _)); exact BK457.out) hb); have n6_ := Aside0.mk (blk_below (g := gb480) (o := .cells #[.int .i64 t477, .int .i64 t478] 25 (0, 0)) (by (with_reducible repeat (first | refine blk_drewN ?_ _ | refine blk_drew ?_ | refine blk_alloc ?_ _)); refine blk_put (cs := #[.int .i64 t477, .int .i64 0]) ?_ 1 _ rfl; (with_reducible repeat (first | refine blk_drewN ?_ _ | refine blk_drew ?_ | refine blk_alloc ?_ _)); refine blk_put (cs := #[.int .i64 0, .int .i64 0]) ?_ 0 _ rfl; (with_reducible repeat (first | refine blk_drewN ?_ _ | refine blk_drew ?_ | refine blk_alloc ?_ _)); exact BK480.out) hb); have n7_ := Aside0.mk (below_step (by repeat (first | (with_reducible first | exact HB.out | apply below_alloc | apply pw_below_drewN | apply below_drew1 | refine below_set ?_ GE447.out | refine below_set ?_ GE457.out | refine below_set ?_ GE480.out) | exact HB.out)) hb); clear HO_4; clear HO_8; clear HO473; clear HO476; clear BK447; clear BK457; clear BK480; clear HB; have HO_4 := n0_; have HO_8 := n1_; have HO473 := n2_; have HO476 := n3_; have BK447 := n4_; have BK457 := n5_; have BK480 := n6_; have HB := n7_; clear n0_ n1_ n2_ n3_ n4_ n5_ n6_ n7_; (try clear hb); (try clear hb2); (try clear hk); (try clear hi); have hnb106 := NB480_447.out; have hnc106 := NB447_480.out; have hnb107 := NB480_457.out; have hnc107 := NB457_480.out; have hcz108_0 : w105.cell? ⟨gb480, 0, none⟩ = some (.int .i64 t477) := (blk_cell BK480.out 0).trans rfl; have hcz108_1 : w105.cell? ⟨gb480, 1, none⟩ = some (.int .i64 t478) := (blk_cell BK480.out 1).trans rfl; have hfz108_0 := blk_frozen BK480.out 0; have hfz108_1 := blk_frozen BK480.out 1; have hnb109 := NB447_457.out; have hnc109 := NB457_447.out; have hcz110_0 : w105.cell? ⟨gb447, 0, none⟩ = some (.int .i64 t444) := (blk_cell BK447.out 0).trans rfl; have hcz110_1 : w105.cell? ⟨gb447, 1, none⟩ = some (.int .i64 t445) := (blk_cell BK447.out 1).trans rfl; have hfz110_0 := blk_frozen BK447.out 0; have hfz110_1 := blk_frozen BK447.out 1) | (go_at_call 35; (with_reducible refine (laws_eqTimer.calls t477 t478 t444 t445 false _ A92.out).mono ?_); rintro e w111 ⟨rfl, hb⟩; have n0_ := Aside0.mk (Kd.R_below (by (with_reducible repeat (first | apply Kd.R_alloc | apply Kd.R_drewN | apply Kd.R_drew)); exact HO_4.out) hb); have n1_ := Aside0.mk (Kd.R_below (by (with_reducible repeat (first | apply Kd.R_alloc | apply Kd.R_drewN | apply Kd.R_drew)); exact HO_8.out) hb); have n2_ := Aside0.mk (Kd.R_below (by (with_reducible repeat (first | apply Kd.R_alloc | apply Kd.R_drewN | apply Kd.R_drew)); exact HO473.out) hb); have n3_ := Aside0.mk (Kd.R_below (by (with_reducible repeat (first | apply Kd.R_alloc | apply Kd.R_drewN | apply Kd.R_drew)); exact HO476.out) hb); have n4_ := Aside0.mk (blk_below (g := gb447) (o := .cells #[.int .i64 t444, .int .i64 t445] 25 (0, 0)) (by (with_reducible repeat (first | refine blk_drewN ?_ _ | refine blk_drew ?_ | refine blk_alloc ?_ _)); exact BK447.out) hb); have n5_ := Aside0.mk (blk_below (g := gb457) (o := .cells #[.int .i64 t454, .int .i64 t455] 25 (0, 0)) (by (with_reducible repeat (first | refine blk_drewN ?_ _ | refine blk_drew ?_ | refine blk_alloc ?_ _)); exact BK457.out) hb); have n6_ := Aside0.mk (blk_below (g := gb480) (o := .cells #[.int .i64 t477, .int .i64 t478] 25 (0, 0)) (by (with_reducible repeat (first | refine blk_drewN ?_ _ | refine blk_drew ?_ | refine blk_alloc ?_ _)); exact BK480.out) hb); have n7_ := Aside0.mk (below_step (by repeat (first | (with_reducible first | exact HB.out | apply below_alloc | apply pw_below_drewN | apply below_drew1 | refine below_set ?_ GE447.out | refine below_set ?_ GE457.out | refine below_set ?_ GE480.out) | exact HB.out)) hb); clear HO_4; clear HO_8; clear HO473; clear HO476; clear BK447; clear BK457; clear BK480; clear HB; have HO_4 := n0_; have HO_8 := n1_; have HO473 := n2_; have HO476 := n3_; have BK447 := n4_; have BK457 := n5_; have BK480 := n6_; have HB := n7_; clear n0_ n1_ n2_ n3_ n4_ n5_ n6_ n7_; (try clear hb); (try clear hb2); (try clear hk); (try clear hi)))
              go_meet
              case rel => exact ⟨_, (true), (by first | rfl | (simp; done) | (simp [*]; done)), H', ⟨by have := HJ7.out; have := HJ45.out; first | omega | exact Nat.le_refl _⟩, ⟨by (with_reducible repeat (first | apply Kd.R_alloc | apply Kd.R_drewN | apply Kd.R_drew)); exact Kd.R_mono HO_8.out (fun _ hk => ⟨hk.1.1.1.2.1, ⟨hk.1.1.1.2.2, hk.2⟩⟩)⟩, ⟨by (with_reducible repeat (first | refine blk_drewN ?_ _ | refine blk_drew ?_ | refine blk_alloc ?_ _)); exact BK447.out⟩, ⟨by (with_reducible repeat (first | refine blk_drewN ?_ _ | refine blk_drew ?_ | refine blk_alloc ?_ _)); exact BK457.out⟩, ⟨by (with_reducible repeat (first | refine blk_drewN ?_ _ | refine blk_drew ?_ | refine blk_alloc ?_ _)); exact BK480.out⟩, ⟨by repeat (first | (with_reducible first | exact HB.out | apply below_alloc | apply pw_below_drewN | apply below_drew1 | refine below_set ?_ GE447.out | refine below_set ?_ GE457.out | refine below_set ?_ GE480.out) | exact HB.out)⟩⟩
            ·
             replace c91 := Bool.eq_false_iff.mpr c91
             subst c91
             have H1 : (laws_FnExactHeapTake.j2 kj45 t469 t468 true) = some r := by rw [if_neg (show ¬ (false = true) by decide)] at H; exact H
             clear H
             have H := H1
             clear H1
             have H' := Aside0.mk H
             clear H
             obtain ⟨Ao112, co112, eo112⟩ := Kd.R_slice HO476.out
             subst eo112
             obtain ⟨Ao113, co113, eo113⟩ := Kd.R_slice HO_4.out
             subst eo113
             go_wp2_with (first | ((with_reducible refine gate_callee (f := 21) rfl ?_); refine goesL_ (some 99) rfl rfl Try.func21 (by kernel_rfl) rfl #[.slice Ao112 t474.length co112, .slice Ao113 t441.length co113] rfl (by (try simp only [List.map_toArray, List.map_cons, List.map_nil]); first | done | rfl | (simp only [List.length_drop, List.length_take]; rfl)) ?_; (with_reducible refine (laws_eqTimerS.calls kj45 _ _ t474 _ _ t441 false _ ?side1 ?side2 ?side3 ?side4 A90.out).mono ?_); (case side1 => refine (Kd.R_reads' (e := 25) (base := w.heap.size) (ok := fun k_ => ((((((True ∧ some k_ ≠ (.slice Ao113 t441.length co113 : Value).ownBlock) ∧ some k_ ≠ (.slice Ao81 t451.length co81 : Value).ownBlock) ∧ some k_ ≠ (.slice Ao84 t471.length co84 : Value).ownBlock) ∧ k_ ≠ gb447) ∧ k_ ≠ gb457) ∧ k_ ≠ gb480)) (n := t474.length) (c := co112) ?_).2.2; exact (by (with_reducible repeat (first | apply Kd.R_alloc | apply Kd.R_drewN | apply Kd.R_drew)); exact (Kd.R_mono (Kd.R_far (p := ⟨gb480, 1, none⟩) (Kd.R_far (p := ⟨gb480, 0, none⟩) (Kd.R_mono HO476.out (fun k_ hk => (⟨hk, hk.2⟩ : _ ∧ k_ ≠ gb480))) (fun _ hk => hk.2) (.int .i64 t477)) (fun _ hk => hk.2) (.int .i64 t478)) (fun _ h_ => h_.1)))); (case side2 => exact (Kd.R_reads' HO476.out).2.1); (case side3 => refine (Kd.R_reads' (e := 25) (base := w.heap.size) (ok := fun k_ => ((((some k_ ≠ (.slice Ao81 t451.length co81 : Value).ownBlock ∧ (k_ ≠ gb447 ∧ k_ ≠ gb457)) ∧ some k_ ≠ (.slice Ao84 t471.length co84 : Value).ownBlock) ∧ some k_ ≠ (.slice Ao112 t474.length co112 : Value).ownBlock) ∧ k_ ≠ gb480)) (n := t441.length) (c := co113) ?_).2.2; exact (by (with_reducible repeat (first | apply Kd.R_alloc | apply Kd.R_drewN | apply Kd.R_drew)); exact (Kd.R_mono (Kd.R_far (p := ⟨gb480, 1, none⟩) (Kd.R_far (p := ⟨gb480, 0, none⟩) (Kd.R_mono HO_4.out (fun k_ hk => (⟨hk, hk.2⟩ : _ ∧ k_ ≠ gb480))) (fun _ hk => hk.2) (.int .i64 t477)) (fun _ hk => hk.2) (.int .i64 t478)) (fun _ h_ => h_.1)))); (case side4 => exact (Kd.R_reads' HO_4.out).2.1); rintro e w114 ⟨rfl, hb⟩; refine ⟨_, rfl, ?_⟩; have n0_ := Aside0.mk (Kd.R_below (by (with_reducible repeat (first | apply Kd.R_alloc | apply Kd.R_drewN | apply Kd.R_drew)); exact (Kd.R_mono (Kd.R_far (p := ⟨gb480, 1, none⟩) (Kd.R_far (p := ⟨gb480, 0, none⟩) (Kd.R_mono HO_4.out (fun k_ hk => (⟨hk, hk.2⟩ : _ ∧ k_ ≠ gb480))) (fun _ hk => hk.2) (.int .i64 t477)) (fun _ hk => hk.2) (.int .i64 t478)) (fun _ h_ => h_.1))) hb); have n1_ := Aside0.mk (Kd.R_below (by (with_reducible repeat (first | apply Kd.R_alloc | apply Kd.R_drewN | apply Kd.R_drew)); exact (Kd.R_mono (Kd.R_far (p := ⟨gb480, 1, none⟩) (Kd.R_far (p := ⟨gb480, 0, none⟩) (Kd.R_mono HO_8.out (fun k_ hk => (⟨hk, hk.2⟩ : _ ∧ k_ ≠ gb480))) (fun _ hk => hk.2) (.int .i64 t477)) (fun _ hk => hk.2) (.int .i64 t478)) (fun _ h_ => h_.1))) hb); have n2_ := Aside0.mk (Kd.R_below (by (with_reducible repeat (first | apply Kd.R_alloc | apply Kd.R_drewN | apply Kd.R_drew)); exact (Kd.R_mono (Kd.R_far (p := ⟨gb480, 1, none⟩) (Kd.R_far (p := ⟨gb480, 0, none⟩) (Kd.R_mono HO473.out (fun k_ hk => (⟨hk, hk.2⟩ : _ ∧ k_ ≠ gb480))) (fun _ hk => hk.2) (.int .i64 t477)) (fun _ hk => hk.2) (.int .i64 t478)) (fun _ h_ => h_.1))) hb); have n3_ := Aside0.mk (Kd.R_below (by (with_reducible repeat (first | apply Kd.R_alloc | apply Kd.R_drewN | apply Kd.R_drew)); exact (Kd.R_mono (Kd.R_far (p := ⟨gb480, 1, none⟩) (Kd.R_far (p := ⟨gb480, 0, none⟩) (Kd.R_mono HO476.out (fun k_ hk => (⟨hk, hk.2⟩ : _ ∧ k_ ≠ gb480))) (fun _ hk => hk.2) (.int .i64 t477)) (fun _ hk => hk.2) (.int .i64 t478)) (fun _ h_ => h_.1))) hb); have n4_ := Aside0.mk (blk_below (g := gb447) (o := .cells #[.int .i64 t444, .int .i64 t445] 25 (0, 0)) (by (with_reducible repeat (first | refine blk_drewN ?_ _ | refine blk_drew ?_ | refine blk_alloc ?_ _)); refine blk_far ?_ NB447_480.out _; (with_reducible repeat (first | refine blk_drewN ?_ _ | refine blk_drew ?_ | refine blk_alloc ?_ _)); refine blk_far ?_ NB447_480.out _; (with_reducible repeat (first | refine blk_drewN ?_ _ | refine blk_drew ?_ | refine blk_alloc ?_ _)); exact BK447.out) hb); have n5_ := Aside0.mk (blk_below (g := gb457) (o := .cells #[.int .i64 t454, .int .i64 t455] 25 (0, 0)) (by (with_reducible repeat (first | refine blk_drewN ?_ _ | refine blk_drew ?_ | refine blk_alloc ?_ _)); refine blk_far ?_ NB457_480.out _; (with_reducible repeat (first | refine blk_drewN ?_ _ | refine blk_drew ?_ | refine blk_alloc ?_ _)); refine blk_far ?_ NB457_480.out _; (with_reducible repeat (first | refine blk_drewN ?_ _ | refine blk_drew ?_ | refine blk_alloc ?_ _)); exact BK457.out) hb); have n6_ := Aside0.mk (blk_below (g := gb480) (o := .cells #[.int .i64 t477, .int .i64 t478] 25 (0, 0)) (by (with_reducible repeat (first | refine blk_drewN ?_ _ | refine blk_drew ?_ | refine blk_alloc ?_ _)); refine blk_put (cs := #[.int .i64 t477, .int .i64 0]) ?_ 1 _ rfl; (with_reducible repeat (first | refine blk_drewN ?_ _ | refine blk_drew ?_ | refine blk_alloc ?_ _)); refine blk_put (cs := #[.int .i64 0, .int .i64 0]) ?_ 0 _ rfl; (with_reducible repeat (first | refine blk_drewN ?_ _ | refine blk_drew ?_ | refine blk_alloc ?_ _)); exact BK480.out) hb); have n7_ := Aside0.mk (below_step (by repeat (first | (with_reducible first | exact HB.out | apply below_alloc | apply pw_below_drewN | apply below_drew1 | refine below_set ?_ GE447.out | refine below_set ?_ GE457.out | refine below_set ?_ GE480.out) | exact HB.out)) hb); clear HO_4; clear HO_8; clear HO473; clear HO476; clear BK447; clear BK457; clear BK480; clear HB; have HO_4 := n0_; have HO_8 := n1_; have HO473 := n2_; have HO476 := n3_; have BK447 := n4_; have BK457 := n5_; have BK480 := n6_; have HB := n7_; clear n0_ n1_ n2_ n3_ n4_ n5_ n6_ n7_; (try clear hb); (try clear hb2); (try clear hk); (try clear hi)))
             go_meet
             case rel => exact ⟨_, (true), (by first | rfl | (simp; done) | (simp [*]; done)), H', ⟨by have := HJ7.out; have := HJ45.out; first | omega | exact Nat.le_refl _⟩, ⟨by (with_reducible repeat (first | apply Kd.R_alloc | apply Kd.R_drewN | apply Kd.R_drew)); exact Kd.R_mono HO_8.out (fun _ hk => ⟨hk.1.1.1.2.1, ⟨hk.1.1.1.2.2, hk.2⟩⟩)⟩, ⟨by (with_reducible repeat (first | refine blk_drewN ?_ _ | refine blk_drew ?_ | refine blk_alloc ?_ _)); exact BK447.out⟩, ⟨by (with_reducible repeat (first | refine blk_drewN ?_ _ | refine blk_drew ?_ | refine blk_alloc ?_ _)); exact BK457.out⟩, ⟨by (with_reducible repeat (first | refine blk_drewN ?_ _ | refine blk_drew ?_ | refine blk_alloc ?_ _)); exact BK480.out⟩, ⟨by repeat (first | (with_reducible first | exact HB.out | apply below_alloc | apply pw_below_drewN | apply below_drew1 | refine below_set ?_ GE447.out | refine below_set ?_ GE457.out | refine below_set ?_ GE480.out) | exact HB.out)⟩⟩
           case rest =>
            clear HC80
            try clear c1
            try clear c2
            try clear p2
            try clear c3
            try clear c3b0
            try clear c4
            try clear c5
            try clear c6
            try clear c7
            try clear c8
            try clear c9
            try clear c10
            try clear c17
            try clear c18
            try clear c19
            try clear c21
            try clear c23
            try clear c24
            try clear c25
            try clear c27
            try clear c33
            try clear c34
            try clear c41
            try clear c44
            try clear c51
            try clear c51b0
            try clear c53
            try clear c55
            try clear c59
            try clear c66
            try clear c73
            try clear c76
            try clear c76b0
            try clear c77
            try clear c77b0
            try clear c77b1
            try clear c87
            try clear c88
            try clear c91
            try clear c93
            try clear c97
            try clear c98
            try clear c100
            try clear c106
            try clear c107
            try clear c109
            try clear hcz101_0
            try clear hcz101_1
            try clear hcz108_0
            try clear hcz108_1
            try clear hcz110_0
            try clear hcz110_1
            try clear hcz13_0
            try clear hcz13_1
            try clear hcz19_0
            try clear hcz19_1
            try clear hcz28_0
            try clear hcz28_1
            try clear hcz29_0
            try clear hcz29_1
            try clear hcz35_0
            try clear hcz35_1
            try clear hcz36_0
            try clear hcz36_1
            try clear hcz60_0
            try clear hcz60_1
            try clear hcz61_0
            try clear hcz61_1
            try clear hcz67_0
            try clear hcz67_1
            try clear hcz68_0
            try clear hcz68_1
            try clear hcz89_0
            try clear hcz89_1
            try clear hcz99_0
            try clear hcz99_1
            try clear hfz101_0
            try clear hfz101_1
            try clear hfz108_0
            try clear hfz108_1
            try clear hfz110_0
            try clear hfz110_1
            try clear hfz13_0
            try clear hfz13_1
            try clear hfz19_0
            try clear hfz19_1
            try clear hfz28_0
            try clear hfz28_1
            try clear hfz29_0
            try clear hfz29_1
            try clear hfz35_0
            try clear hfz35_1
            try clear hfz36_0
            try clear hfz36_1
            try clear hfz60_0
            try clear hfz60_1
            try clear hfz61_0
            try clear hfz61_1
            try clear hfz67_0
            try clear hfz67_1
            try clear hfz68_0
            try clear hfz68_1
            try clear hfz89_0
            try clear hfz89_1
            try clear hfz99_0
            try clear hfz99_1
            try clear p2
            obtain ⟨kq, x111_79, rfl, HA, HJ79, HO_8, BK447, BK457, BK480, HB⟩ := hcut
            have hl8_79 := (Kd.R_reads' HO_8.out).1
            rw [hl8_79] at HO_8
            (try simp only [hl8_79])
            (try simp only [hl8_79] at BK447)
            (try simp only [hl8_79] at BK457)
            (try simp only [hl8_79] at BK480)
            cases kq with
            | zero => exact absurd HA.out (by simp [laws_FnExactHeapTake.j2])
            | succ kj79 =>
             have H := HA.out
             clear HA
             simp only [laws_FnExactHeapTake.j2] at H
             by_cases c115 : x111_79 = true
             ·
              subst c115
              have H1 : (none) = some r := by rw [if_pos rfl] at H; exact H
              clear H
              have H := H1
              clear H1
              exact absurd H (by simp)
             ·
              replace c115 := Bool.eq_false_iff.mpr c115
              subst c115
              have H1 : ((laws_heldTimerS.f kj79 t469 1).bind fun t483 => (if t483 < 0 then (none) else (if t483 = t468 then (some true) else (none)))) = some r := by rw [if_neg (show ¬ (false = true) by decide)] at H; exact H
              clear H
              have H := H1
              clear H1
              replace H := Option.bind_eq_some_iff.mp H
              obtain ⟨t483, A1160, H⟩ := H
              replace H : (if t483 < 0 then (none) else (if t483 = t468 then (some true) else (none))) = some r := H
              have A116 := Aside0.mk A1160
              clear A1160
              by_cases c117 : t483 < 0
              ·
               rw [if_pos c117] at H
               exact absurd H (by simp)
              ·
               rw [if_neg c117] at H
               have c117b0 : decide (t483 < 0) = false := decide_eq_false c117
               clear c117
               by_cases c118 : t483 = t468
               ·
                rw [if_pos c118] at H
                have c118b0 : (t483 == t468) = true := beq_iff_eq.mpr c118
                have c118b1 : (t483 != t468) = false := bne_eq_false_iff_eq.mpr c118
                clear c118
                obtain rfl := Option.some.inj H
                go_wp2_with (first | ((with_reducible refine gate_callee (f := 25) rfl ?_); refine goesL_ (some 114) rfl rfl Try.func25 (by kernel_rfl) rfl #[.slice Ao81 t469.length co81, .int .i64 1] rfl (by (try simp only [List.map_toArray, List.map_cons, List.map_nil]); first | done | rfl | (simp only [List.length_drop, List.length_take]; rfl)) ?_; (with_reducible refine (laws_heldTimerS.calls kj79 _ _ t469 1 t483 _ ?side1 ?side2 A116.out).mono ?_); (case side1 => repeat (first | exact (Kd.R_reads' HO_8.out).2.2 | (with_reducible refine Kd.C_alloc ?_ _) | (with_reducible refine Kd.C_drewN ?_ _) | (with_reducible refine Kd.C_drew ?_))); (case side2 => exact (Kd.R_reads' HO_8.out).2.1); rintro e w' ⟨rfl, ⟨nd, rfl⟩⟩; refine ⟨_, rfl, ?_⟩))
                go_ret
                exact ⟨by first | rfl | (simp [errW_none, errW_some] <;> rfl) | (simp [*, errW_none, errW_some] <;> rfl), by repeat (first | (with_reducible first | exact HB.out | apply below_alloc | apply pw_below_drewN | apply below_drew1 | refine below_set ?_ GE447.out | refine below_set ?_ GE457.out | refine below_set ?_ GE480.out) | exact HB.out)⟩
               ·
                rw [if_neg c118] at H
                exact absurd H (by simp)
          ·
           rw [if_neg c77] at H
           exact absurd H (by simp)
     ·
      replace c44 := Bool.eq_false_iff.mpr c44
      subst c44
      have H1 : (none) = some r := by rw [if_neg (show ¬ (false = true) by decide)] at H; exact H
      clear H
      have H := H1
      clear H1
      exact absurd H (by simp)

end Go.Proofs.Ytkjakmbmnbjpbaa.Print
