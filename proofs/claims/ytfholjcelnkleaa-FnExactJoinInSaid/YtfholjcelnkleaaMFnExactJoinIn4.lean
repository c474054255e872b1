import Derived.Test.YtfholjcelnkleaaMFnExactJoinIn1
import Derived.Test.YtfholjcelnkleaaMFnExactJoinIn3
import Derived.Laws.Cover1
section
namespace Go.Proofs.Ytfholjcelnkleaa.Print
open Go.RowKit Go.Proofs.YtfholjcelnkleaaV.PrintWords Go.Proofs.YtfholjcelnkleaaV.PrintLast Go.Proofs.YtfholjcelnkleaaV.PrintMore
attribute [local go_sem] max2_int min2_int max_two min_two max_three min_three max_four min_four
set_option linter.unusedVariables false
set_option linter.unusedSimpArgs false
set_option maxHeartbeats 8000000
set_option maxRecDepth 100000
def impl_labelsAt.l0 : Nat → List (S164) → List (S44) → Int → Int → Option (Int)
 | 0, _, _, _, _ => none
 | k + 1, x1, x7, x8, x9 => if x9 < x8 then (if 0 ≤ x9 then (if x9 < (x7.length : Int) then ((impl_SameSet.f k ((rd_T44 x7 x9).f0) x1).bind fun t975 => (if t975 = true then (some x9) else (impl_labelsAt.l0 k x1 x7 x8 (wrap64 (x9 + 1))))) else (none)) else (none)) else (some (-1))
def impl_labelsAt.f (k : Nat) (l0 : List (S44)) (l1 : List (S164)) : Option (Int) := impl_labelsAt.l0 k l1 l0 (l0.length : Int) 0
theorem impl_labelsAt.mono_l : ∀ k, (∀ y0 y1 y2 y3, LeO (impl_labelsAt.l0 k y0 y1 y2 y3) (impl_labelsAt.l0 (k + 1) y0 y1 y2 y3))
 | 0 => fun _ _ _ _ r h => by simp [impl_labelsAt.l0] at h
 | k + 1 => by
  have ih0 := impl_labelsAt.mono_l k
  intro y0 y1 y2 y3
  unfold impl_labelsAt.l0
  repeat' first
  | (with_reducible exact ih0 _ _ _ _)
  | (with_reducible exact impl_SameSet.mono _ _ _)
  | (with_reducible exact LeO.refl _)
  | (with_reducible exact LeO.none _)
  | (with_reducible refine LeO.ite ?_ ?_)
  | (with_reducible refine LeO.bind ?_ (fun _ => ?_))
  | exact ih0 _ _ _ _
  | exact impl_SameSet.mono _ _ _
theorem impl_labelsAt.mono : ∀ a0 a1 k, LeO (impl_labelsAt.f k a0 a1) (impl_labelsAt.f (k + 1) a0 a1) := by
 intro a0 a1 k
 have ih0 := impl_labelsAt.mono_l k
 unfold impl_labelsAt.f
 repeat' first
   | (with_reducible exact ih0 _ _ _ _)
   | (with_reducible exact impl_SameSet.mono _ _ _)
   | (with_reducible exact LeO.refl _)
   | (with_reducible exact LeO.none _)
   | (with_reducible refine LeO.ite ?_ ?_)
   | (with_reducible refine LeO.bind ?_ (fun _ => ?_))
   | exact ih0 _ _ _ _
   | exact impl_SameSet.mono _ _ _
theorem impl_labelsAt.calls (k : Nat) (A0 : Option Addr) (c0 : Nat) (l0 : List (S44)) (A1 : Option Addr) (c1 : Nat) (l1 : List (S164)) (r : Int) (w : World) (hr0 : Kd.C k44 w A0 l0.length l0) (hc0 : l0.length ≤ c0) (hr1 : Kd.C k164 w A1 l1.length l1) (hc1 : l1.length ≤ c1) (h : impl_labelsAt.f k l0 l1 = some r) :
  Calls Try.prog 115 #[.slice A0 l0.length c0, .slice A1 l1.length c1] w fun e w' => e = .returned (.int .i64 r) ∧ Below w.heap.size w w' := by
 have hu44 := Try.underlying44
 have HR0 := Aside0.mk hr0
 have HC0 := Aside0.mk hc0
 clear hr0 hc0
 have HR1 := Aside0.mk hr1
 have HC1 := Aside0.mk hc1
 clear hr1 hc1
 have HB := Aside0.mk (Below.refl w.heap.size w)
 have H : (impl_labelsAt.l0 k l1 l0 (l0.length : Int) 0) = some r := h
 clear h
 have H' := Aside0.mk H
 clear H
 go_enter Try.func115, Try.ntmps115
 go_wp2
 go_loopg [9] k (fun kq v9 w' => ∃ (x9_1 : Int), v9 = .int .i64 x9_1 ∧ Aside0 (impl_labelsAt.l0 kq l1 l0 (l0.length : Int) x9_1 = some r) ∧ Aside0 (kq ≤ k) ∧ Aside0 (Below w.heap.size w w'))
 case atStart => exact ⟨(0), (by first | rfl | (simp; done) | (simp [*]; done)), H', ⟨Nat.le_refl _⟩, ⟨by repeat (first | (with_reducible first | exact HB.out | apply ba_ | apply bn_ | apply bd_) | exact HB.out)⟩⟩
 case round =>
  clear H'
  try clear c1
  try clear p2
  obtain ⟨x9_1, rfl, HA, HK1, HB⟩ := hrel
  cases gk with
  | zero => exact absurd HA.out (by simp [impl_labelsAt.l0])
  | succ k1 =>
   have H := HA.out
   clear HA
   simp only [impl_labelsAt.l0] at H
   by_cases c3 : x9_1 < (l0.length : Int)
   ·
    rw [if_pos c3] at H
    have c3b0 := decide_eq_true c3
    clear c3
    by_cases c4 : 0 ≤ x9_1
    ·
     rw [if_pos c4] at H
     have c4b0 := decide_eq_true c4
     clear c4
     by_cases c5 : x9_1 < (l0.length : Int)
     ·
      rw [if_pos c5] at H
      have c5b0 := decide_eq_true c5
      clear c5
      replace H := Option.bind_eq_some_iff.mp H
      obtain ⟨t975, A60, H⟩ := H
      have A6 := Aside0.mk A60
      clear A60
      by_cases c7 : t975 = true
      ·
       subst c7
       rw [if_pos rfl] at H
       obtain rfl := Option.some.inj H
       have p973 : 0 ≤ (x9_1 : Int) := of_decide_eq_true (by with_reducible assumption)
       have q973 : x9_1 < (l0.length : Int) := of_decide_eq_true (by with_reducible assumption)
       obtain ⟨ad973, A973_0, c973_0, e973, hx973_0, hx973_1, hx973_2, hx973_3, hl973_0, hi973_0⟩ := at_T44 HR0.out x9_1 p973 q973
       cases e973
       replace hx973_0 := cl_ HB.out hx973_0
       replace hx973_1 := cl_ HB.out hx973_1
       replace hx973_2 := cl_ HB.out hx973_2
       replace hx973_3 := cl_ HB.out hx973_3
       have HR973_0 := Aside0.mk hi973_0
       have HC973_0 := Aside0.mk hl973_0
       clear hi973_0 hl973_0
       replace p973 := eq_true p973
       replace q973 := eq_true q973
       go_wp2_with (first | ((with_reducible refine gate_dst (N := 6) rfl ?_); refine box_event ?hg (N := 6) ?hd (cs := #[.slice none 0 0, .int .i64 0, .int .i64 0, .string (⟨#[]⟩ : ByteArray)]) (t := 44) ?hr ?_; (case hd => rfl); (case hg => rfl); (case hr => first | (go_simp; done) | (go_simp; rfl)); intro gb974 hg w8 hbox hb; have n0_ := Aside0.mk (below_step (by repeat (first | (with_reducible first | exact HB.out | apply ba_ | apply bn_ | apply bd_) | exact HB.out)) hb); have BK974 := Aside0.mk (hbox); have GW974 := Aside0.mk ((by rw [hg]; exact (below_size (by repeat (first | (with_reducible first | exact HB.out | apply ba_ | apply bn_ | apply bd_) | exact HB.out))) : w.heap.size ≤ gb974)); have GE974 := GW974; clear HB; have HB := n0_; clear n0_; clear hb hbox hg; obtain ⟨hcz9_0, hcz9_1, hcz9_2, hcz9_3, hfz9_0, hfz9_1, hfz9_2, hfz9_3⟩ := bc4_ BK974.out) | ((with_reducible refine gate_callee (f := 139) rfl ?_); refine goesL_ (some 17) rfl rfl Try.func139 (by kernel_rfl) rfl #[.slice A973_0 ((rd_T44 l0 x9_1).f0).length c973_0, .slice A1 l1.length c1] rfl (by (try simp only [mp_]); first | done | rfl | (simp only [List.length_drop, List.length_take]; rfl)) ?_; (with_reducible refine (impl_SameSet.calls k1 _ _ ((rd_T44 l0 x9_1).f0) _ _ l1 true _ ?side1 ?side2 ?side3 ?side4 A6.out).mono ?_); (case side1 => exact Kd.C_below HR973_0.out (by repeat (first | (with_reducible first | exact HB.out | apply ba_ | apply bn_ | apply bd_ | refine below_set ?_ GE974.out) | exact HB.out))); (case side2 => exact HC973_0.out); (case side3 => exact Kd.C_below HR1.out (by repeat (first | (with_reducible first | exact HB.out | apply ba_ | apply bn_ | apply bd_ | refine below_set ?_ GE974.out) | exact HB.out))); (case side4 => exact HC1.out); rintro e w' ⟨rfl, ⟨nd, rfl⟩⟩; refine ⟨_, rfl, ?_⟩))
       go_ret
       exact ⟨by first | rfl | (simp [errW_none, errW_some] <;> rfl) | (simp [*, errW_none, errW_some] <;> rfl), by repeat (first | (with_reducible first | exact HB.out | apply ba_ | apply bn_ | apply bd_ | refine below_set ?_ GE974.out) | exact HB.out)⟩
      replace c7 := Bool.eq_false_iff.mpr c7
      subst c7
      rw [if_neg (show ¬ (false = true) by decide)] at H
      have H' := Aside0.mk H
      clear H
      have p973 : 0 ≤ (x9_1 : Int) := of_decide_eq_true (by with_reducible assumption)
      have q973 : x9_1 < (l0.length : Int) := of_decide_eq_true (by with_reducible assumption)
      obtain ⟨ad973, A973_0, c973_0, e973, hx973_0, hx973_1, hx973_2, hx973_3, hl973_0, hi973_0⟩ := at_T44 HR0.out x9_1 p973 q973
      cases e973
      replace hx973_0 := cl_ HB.out hx973_0
      replace hx973_1 := cl_ HB.out hx973_1
      replace hx973_2 := cl_ HB.out hx973_2
      replace hx973_3 := cl_ HB.out hx973_3
      have HR973_0 := Aside0.mk hi973_0
      have HC973_0 := Aside0.mk hl973_0
      clear hi973_0 hl973_0
      replace p973 := eq_true p973
      replace q973 := eq_true q973
      go_wp2_with (first | ((with_reducible refine gate_dst (N := 6) rfl ?_); refine box_event ?hg (N := 6) ?hd (cs := #[.slice none 0 0, .int .i64 0, .int .i64 0, .string (⟨#[]⟩ : ByteArray)]) (t := 44) ?hr ?_; (case hd => rfl); (case hg => rfl); (case hr => first | (go_simp; done) | (go_simp; rfl)); intro gb974 hg w10 hbox hb; have n0_ := Aside0.mk (below_step (by repeat (first | (with_reducible first | exact HB.out | apply ba_ | apply bn_ | apply bd_) | exact HB.out)) hb); have BK974 := Aside0.mk (hbox); have GW974 := Aside0.mk ((by rw [hg]; exact (below_size (by repeat (first | (with_reducible first | exact HB.out | apply ba_ | apply bn_ | apply bd_) | exact HB.out))) : w.heap.size ≤ gb974)); have GE974 := GW974; clear HB; have HB := n0_; clear n0_; clear hb hbox hg; obtain ⟨hcz11_0, hcz11_1, hcz11_2, hcz11_3, hfz11_0, hfz11_1, hfz11_2, hfz11_3⟩ := bc4_ BK974.out) | ((with_reducible refine gate_callee (f := 139) rfl ?_); refine goesL_ (some 17) rfl rfl Try.func139 (by kernel_rfl) rfl #[.slice A973_0 ((rd_T44 l0 x9_1).f0).length c973_0, .slice A1 l1.length c1] rfl (by (try simp only [mp_]); first | done | rfl | (simp only [List.length_drop, List.length_take]; rfl)) ?_; (with_reducible refine (impl_SameSet.calls k1 _ _ ((rd_T44 l0 x9_1).f0) _ _ l1 false _ ?side1 ?side2 ?side3 ?side4 A6.out).mono ?_); (case side1 => exact Kd.C_below HR973_0.out (by repeat (first | (with_reducible first | exact HB.out | apply ba_ | apply bn_ | apply bd_ | refine below_set ?_ GE974.out) | exact HB.out))); (case side2 => exact HC973_0.out); (case side3 => exact Kd.C_below HR1.out (by repeat (first | (with_reducible first | exact HB.out | apply ba_ | apply bn_ | apply bd_ | refine below_set ?_ GE974.out) | exact HB.out))); (case side4 => exact HC1.out); rintro e w' ⟨rfl, ⟨nd, rfl⟩⟩; refine ⟨_, rfl, ?_⟩))
      go_roundg k1
      case measure => have := HK1.out; omega
      case rel => exact ⟨(wrap64 (x9_1 + 1)), (by first | rfl | (simp; done) | (simp [*]; done)), H', ⟨by have := HK1.out; omega⟩, ⟨by repeat (first | (with_reducible first | exact HB.out | apply ba_ | apply bn_ | apply bd_ | refine below_set ?_ GE974.out) | exact HB.out)⟩⟩
     rw [if_neg c5] at H
     exact absurd H (by simp)
    rw [if_neg c4] at H
    exact absurd H (by simp)
   rw [if_neg c3] at H
   have c3b0 : decide (x9_1 < (l0.length : Int)) = false := decide_eq_false c3
   clear c3
   obtain rfl := Option.some.inj H
   go_wp2
   go_ret
   exact ⟨by first | rfl | (simp [errW_none, errW_some] <;> rfl) | (simp [*, errW_none, errW_some] <;> rfl), by repeat (first | (with_reducible first | exact HB.out | apply ba_ | apply bn_ | apply bd_) | exact HB.out)⟩
mutual
def impl_SetLess.l0 : Nat → List (S164) → List (S164) → Int → Option (Bool)
 | 0, _, _, _ => none
 | k + 1, x0, x1, x5 => if x5 < (x0.length : Int) then (impl_SetLess.j1 k x0 x1 x5 (decide (x5 < (x1.length : Int)))) else (impl_SetLess.j1 k x0 x1 x5 false)
def impl_SetLess.j1 : Nat → List (S164) → List (S164) → Int → Bool → Option (Bool)
 | 0, _, _, _, _ => none
 | k + 1, x0, x1, x5, x15 => if x15 = true then (if 0 ≤ x5 then (if x5 < (x0.length : Int) then (if x5 < (x1.length : Int) then (if ((rd_T164 x0 x5).f0).toList = ((rd_T164 x1 x5).f0).toList then (if ((rd_T164 x0 x5).f1).toList = ((rd_T164 x1 x5).f1).toList then (impl_SetLess.l0 k x0 x1 (wrap64 (x5 + 1))) else (some (Op.bytesLess (((rd_T164 x0 x5).f1).toList) (((rd_T164 x1 x5).f1).toList)))) else (some (Op.bytesLess (((rd_T164 x0 x5).f0).toList) (((rd_T164 x1 x5).f0).toList)))) else (none)) else (none)) else (none)) else (some (decide ((x0.length : Int) < (x1.length : Int))))
end
def impl_SetLess.f (k : Nat) (l0 : List (S164)) (l1 : List (S164)) : Option (Bool) := impl_SetLess.l0 k l0 l1 0
theorem impl_SetLess.mono_l : ∀ k, (∀ y0 y1 y2, LeO (impl_SetLess.l0 k y0 y1 y2) (impl_SetLess.l0 (k + 1) y0 y1 y2)) ∧ (∀ y0 y1 y2 y3, LeO (impl_SetLess.j1 k y0 y1 y2 y3) (impl_SetLess.j1 (k + 1) y0 y1 y2 y3))
 | 0 => ⟨fun _ _ _ r h => by simp [impl_SetLess.l0] at h, fun _ _ _ _ r h => by simp [impl_SetLess.j1] at h⟩
 | k + 1 => by
  obtain ⟨ih0, ih1⟩ := impl_SetLess.mono_l k
  refine ⟨?_, ?_⟩
  ·
   intro y0 y1 y2
   unfold impl_SetLess.l0
   repeat' first
   | (with_reducible exact ih0 _ _ _)
   | (with_reducible exact ih1 _ _ _ _)
   | (with_reducible exact LeO.refl _)
   | (with_reducible exact LeO.none _)
   | (with_reducible refine LeO.ite ?_ ?_)
   | (with_reducible refine LeO.bind ?_ (fun _ => ?_))
   | exact ih0 _ _ _
   | exact ih1 _ _ _ _
  intro y0 y1 y2 y3
  unfold impl_SetLess.j1
  repeat' first
  | (with_reducible exact ih0 _ _ _)
  | (with_reducible exact ih1 _ _ _ _)
  | (with_reducible exact LeO.refl _)
  | (with_reducible exact LeO.none _)
  | (with_reducible refine LeO.ite ?_ ?_)
  | (with_reducible refine LeO.bind ?_ (fun _ => ?_))
  | exact ih0 _ _ _
  | exact ih1 _ _ _ _
theorem impl_SetLess.mono : ∀ a0 a1 k, LeO (impl_SetLess.f k a0 a1) (impl_SetLess.f (k + 1) a0 a1) := by
 intro a0 a1 k
 obtain ⟨ih0, ih1⟩ := impl_SetLess.mono_l k
 unfold impl_SetLess.f
 repeat' first
   | (with_reducible exact ih0 _ _ _)
   | (with_reducible exact ih1 _ _ _ _)
   | (with_reducible exact LeO.refl _)
   | (with_reducible exact LeO.none _)
   | (with_reducible refine LeO.ite ?_ ?_)
   | (with_reducible refine LeO.bind ?_ (fun _ => ?_))
   | exact ih0 _ _ _
   | exact ih1 _ _ _ _
theorem impl_SetLess.calls (k : Nat) (A0 : Option Addr) (c0 : Nat) (l0 : List (S164)) (A1 : Option Addr) (c1 : Nat) (l1 : List (S164)) (r : Bool) (w : World) (hr0 : Kd.C k164 w A0 l0.length l0) (hc0 : l0.length ≤ c0) (hr1 : Kd.C k164 w A1 l1.length l1) (hc1 : l1.length ≤ c1) (h : impl_SetLess.f k l0 l1 = some r) :
  Calls Try.prog 153 #[.slice A0 l0.length c0, .slice A1 l1.length c1] w fun e w' => e = .returned (.bool r) ∧ Drawn0 w w' := by
 have HR0 := Aside0.mk hr0
 have HC0 := Aside0.mk hc0
 clear hr0 hc0
 have HR1 := Aside0.mk hr1
 have HC1 := Aside0.mk hc1
 clear hr1 hc1
 have H : (impl_SetLess.l0 k l0 l1 0) = some r := h
 clear h
 have H' := Aside0.mk H
 clear H
 go_enter Try.func153, Try.ntmps153
 go_wp2
 repeat (go_quiet (fail); try go_wp2)
 go_loopg [5] k (fun kq v5 w' => ∃ (x5_1 : Int), v5 = .int .i64 x5_1 ∧ Aside0 (impl_SetLess.l0 kq l0 l1 x5_1 = some r) ∧ Aside0 (kq ≤ k) ∧ Drawn0 w w')
 case atStart => exact ⟨(0), (by first | rfl | (simp; done) | (simp [*]; done)), H', ⟨Nat.le_refl _⟩, by repeat (first | exact Drawn0.refl _ | apply Drawn0.step)⟩
 case round =>
  clear H'
  try clear c1
  try clear p2
  obtain ⟨x5_1, rfl, HA, HK1, ⟨m1, rfl⟩⟩ := hrel
  cases gk with
  | zero => exact absurd HA.out (by simp [impl_SetLess.l0])
  | succ k1 =>
   have H := HA.out
   clear HA
   simp only [impl_SetLess.l0] at H
   have HC3 := Aside0.mk H
   clear H
   go_upto_region 2 with (fail)
   repeat (go_quiet (fail); go_upto_region 2 with (fail))
   go_cut [15] (fun v15 wc => ∃ (kq : Nat) (x15_2 : Bool), v15 = .bool x15_2 ∧ Aside0 (impl_SetLess.j1 kq l0 l1 x5_1 x15_2 = some r) ∧ Aside0 (kq ≤ k1) ∧ Drawn0 w wc)
   case first =>
    have H := HC3.out
    clear HC3
    by_cases c4 : x5_1 < (l0.length : Int)
    ·
     rw [if_pos c4] at H
     have c4b0 := decide_eq_true c4
     clear c4
     (first | rw [c4b0] | (simp only [i64_w, i32_w]; rw [c4b0]) | skip)
     have H' := Aside0.mk H
     clear H
     go_wp2
     repeat (go_quiet (fail); try go_wp2)
     go_meet
     case rel => exact ⟨_, (decide (x5_1 < (l1.length : Int))), (by first | rfl | (simp; done) | (simp [*]; done)), H', ⟨by have := HK1.out; first | omega | exact Nat.le_refl _⟩, by repeat (first | exact Drawn0.refl _ | apply Drawn0.step)⟩
    rw [if_neg c4] at H
    have c4b0 : decide (x5_1 < (l0.length : Int)) = false := decide_eq_false c4
    clear c4
    (first | rw [c4b0] | (simp only [i64_w, i32_w]; rw [c4b0]) | skip)
    have H' := Aside0.mk H
    clear H
    go_wp2
    repeat (go_quiet (fail); try go_wp2)
    go_meet
    case rel => exact ⟨_, (false), (by first | rfl | (simp; done) | (simp [*]; done)), H', ⟨by have := HK1.out; first | omega | exact Nat.le_refl _⟩, by repeat (first | exact Drawn0.refl _ | apply Drawn0.step)⟩
   case rest =>
    clear HC3
    try clear c1
    try clear p2
    try clear c4
    try clear c4b0
    try clear p2
    obtain ⟨kq, x15_2, rfl, HA, HJ2, ⟨mc2, rfl⟩⟩ := hcut
    cases kq with
    | zero => exact absurd HA.out (by simp [impl_SetLess.j1])
    | succ kj2 =>
     have H := HA.out
     clear HA
     simp only [impl_SetLess.j1] at H
     by_cases c5 : x15_2 = true
     ·
      subst c5
      rw [if_pos rfl] at H
      by_cases c6 : 0 ≤ x5_1
      ·
       rw [if_pos c6] at H
       have c6b0 := decide_eq_true c6
       clear c6
       by_cases c7 : x5_1 < (l0.length : Int)
       ·
        rw [if_pos c7] at H
        have c7b0 := decide_eq_true c7
        clear c7
        by_cases c8 : x5_1 < (l1.length : Int)
        ·
         rw [if_pos c8] at H
         have c8b0 := decide_eq_true c8
         clear c8
         by_cases c9 : ((rd_T164 l0 x5_1).f0).toList = ((rd_T164 l1 x5_1).f0).toList
         ·
          rw [if_pos c9] at H
          have c9b0 : (((rd_T164 l0 x5_1).f0).toList == ((rd_T164 l1 x5_1).f0).toList) = true := beq_iff_eq.mpr c9
          have c9b1 : (((rd_T164 l0 x5_1).f0).toList != ((rd_T164 l1 x5_1).f0).toList) = false := bne_eq_false_iff_eq.mpr c9
          clear c9
          by_cases c10 : ((rd_T164 l0 x5_1).f1).toList = ((rd_T164 l1 x5_1).f1).toList
          ·
           rw [if_pos c10] at H
           have c10b0 : (((rd_T164 l0 x5_1).f1).toList == ((rd_T164 l1 x5_1).f1).toList) = true := beq_iff_eq.mpr c10
           have c10b1 : (((rd_T164 l0 x5_1).f1).toList != ((rd_T164 l1 x5_1).f1).toList) = false := bne_eq_false_iff_eq.mpr c10
           clear c10
           have H' := Aside0.mk H
           clear H
           have p814 : 0 ≤ (x5_1 : Int) := of_decide_eq_true (by with_reducible assumption)
           have q814 : x5_1 < (l0.length : Int) := of_decide_eq_true (by with_reducible assumption)
           obtain ⟨ad814, e814, hx814_0, hx814_1⟩ := at_T164 HR0.out x5_1 p814 q814
           cases e814
           replace p814 := eq_true p814
           replace q814 := eq_true q814
           have p815 : 0 ≤ (x5_1 : Int) := of_decide_eq_true (by with_reducible assumption)
           have q815 : x5_1 < (l1.length : Int) := of_decide_eq_true (by with_reducible assumption)
           obtain ⟨ad815, e815, hx815_0, hx815_1⟩ := at_T164 HR1.out x5_1 p815 q815
           cases e815
           replace p815 := eq_true p815
           replace q815 := eq_true q815
           have p816 : 0 ≤ (x5_1 : Int) := of_decide_eq_true (by with_reducible assumption)
           have q816 : x5_1 < (l0.length : Int) := of_decide_eq_true (by with_reducible assumption)
           obtain ⟨ad816, e816, hx816_0, hx816_1⟩ := at_T164 HR0.out x5_1 p816 q816
           obtain rfl : ad814 = ad816 := (by injection e816)
           replace p816 := eq_true p816
           replace q816 := eq_true q816
           have p817 : 0 ≤ (x5_1 : Int) := of_decide_eq_true (by with_reducible assumption)
           have q817 : x5_1 < (l1.length : Int) := of_decide_eq_true (by with_reducible assumption)
           obtain ⟨ad817, e817, hx817_0, hx817_1⟩ := at_T164 HR1.out x5_1 p817 q817
           obtain rfl : ad815 = ad817 := (by injection e817)
           replace p817 := eq_true p817
           replace q817 := eq_true q817
           go_wp2
           repeat (go_quiet (fail); try go_wp2)
           go_roundg kj2
           case measure => have := HK1.out; have := HJ2.out; omega
           case rel => exact ⟨(wrap64 (x5_1 + 1)), (by first | rfl | (simp; done) | (simp [*]; done)), H', ⟨by have := HK1.out; have := HJ2.out; omega⟩, by repeat (first | exact Drawn0.refl _ | apply Drawn0.step)⟩
          rw [if_neg c10] at H
          have c10b0 : (((rd_T164 l0 x5_1).f1).toList == ((rd_T164 l1 x5_1).f1).toList) = false := beq_eq_false_iff_ne.mpr c10
          have c10b1 : (((rd_T164 l0 x5_1).f1).toList != ((rd_T164 l1 x5_1).f1).toList) = true := bne_iff_ne.mpr c10
          obtain rfl := Option.some.inj H
          have p814 : 0 ≤ (x5_1 : Int) := of_decide_eq_true (by with_reducible assumption)
          have q814 : x5_1 < (l0.length : Int) := of_decide_eq_true (by with_reducible assumption)
          obtain ⟨ad814, e814, hx814_0, hx814_1⟩ := at_T164 HR0.out x5_1 p814 q814
          cases e814
          replace p814 := eq_true p814
          replace q814 := eq_true q814
          have p815 : 0 ≤ (x5_1 : Int) := of_decide_eq_true (by with_reducible assumption)
          have q815 : x5_1 < (l1.length : Int) := of_decide_eq_true (by with_reducible assumption)
          obtain ⟨ad815, e815, hx815_0, hx815_1⟩ := at_T164 HR1.out x5_1 p815 q815
          cases e815
          replace p815 := eq_true p815
          replace q815 := eq_true q815
          have p816 : 0 ≤ (x5_1 : Int) := of_decide_eq_true (by with_reducible assumption)
          have q816 : x5_1 < (l0.length : Int) := of_decide_eq_true (by with_reducible assumption)
          obtain ⟨ad816, e816, hx816_0, hx816_1⟩ := at_T164 HR0.out x5_1 p816 q816
          obtain rfl : ad814 = ad816 := (by injection e816)
          replace p816 := eq_true p816
          replace q816 := eq_true q816
          have p817 : 0 ≤ (x5_1 : Int) := of_decide_eq_true (by with_reducible assumption)
          have q817 : x5_1 < (l1.length : Int) := of_decide_eq_true (by with_reducible assumption)
          obtain ⟨ad817, e817, hx817_0, hx817_1⟩ := at_T164 HR1.out x5_1 p817 q817
          obtain rfl : ad815 = ad817 := (by injection e817)
          replace p817 := eq_true p817
          replace q817 := eq_true q817
          have p818 : 0 ≤ (x5_1 : Int) := of_decide_eq_true (by with_reducible assumption)
          have q818 : x5_1 < (l0.length : Int) := of_decide_eq_true (by with_reducible assumption)
          obtain ⟨ad818, e818, hx818_0, hx818_1⟩ := at_T164 HR0.out x5_1 p818 q818
          obtain rfl : ad814 = ad818 := (by injection e818)
          replace p818 := eq_true p818
          replace q818 := eq_true q818
          have p819 : 0 ≤ (x5_1 : Int) := of_decide_eq_true (by with_reducible assumption)
          have q819 : x5_1 < (l1.length : Int) := of_decide_eq_true (by with_reducible assumption)
          obtain ⟨ad819, e819, hx819_0, hx819_1⟩ := at_T164 HR1.out x5_1 p819 q819
          obtain rfl : ad815 = ad819 := (by injection e819)
          replace p819 := eq_true p819
          replace q819 := eq_true q819
          go_wp2
          repeat (go_quiet (fail); try go_wp2)
          go_ret
          exact ⟨by first | rfl | (simp; done) | (simp [*]; done), by repeat (first | exact Drawn0.refl _ | apply Drawn0.step)⟩
         rw [if_neg c9] at H
         have c9b0 : (((rd_T164 l0 x5_1).f0).toList == ((rd_T164 l1 x5_1).f0).toList) = false := beq_eq_false_iff_ne.mpr c9
         have c9b1 : (((rd_T164 l0 x5_1).f0).toList != ((rd_T164 l1 x5_1).f0).toList) = true := bne_iff_ne.mpr c9
         obtain rfl := Option.some.inj H
         have p814 : 0 ≤ (x5_1 : Int) := of_decide_eq_true (by with_reducible assumption)
         have q814 : x5_1 < (l0.length : Int) := of_decide_eq_true (by with_reducible assumption)
         obtain ⟨ad814, e814, hx814_0, hx814_1⟩ := at_T164 HR0.out x5_1 p814 q814
         cases e814
         replace p814 := eq_true p814
         replace q814 := eq_true q814
         have p815 : 0 ≤ (x5_1 : Int) := of_decide_eq_true (by with_reducible assumption)
         have q815 : x5_1 < (l1.length : Int) := of_decide_eq_true (by with_reducible assumption)
         obtain ⟨ad815, e815, hx815_0, hx815_1⟩ := at_T164 HR1.out x5_1 p815 q815
         cases e815
         replace p815 := eq_true p815
         replace q815 := eq_true q815
         have p820 : 0 ≤ (x5_1 : Int) := of_decide_eq_true (by with_reducible assumption)
         have q820 : x5_1 < (l0.length : Int) := of_decide_eq_true (by with_reducible assumption)
         obtain ⟨ad820, e820, hx820_0, hx820_1⟩ := at_T164 HR0.out x5_1 p820 q820
         obtain rfl : ad814 = ad820 := (by injection e820)
         replace p820 := eq_true p820
         replace q820 := eq_true q820
         have p821 : 0 ≤ (x5_1 : Int) := of_decide_eq_true (by with_reducible assumption)
         have q821 : x5_1 < (l1.length : Int) := of_decide_eq_true (by with_reducible assumption)
         obtain ⟨ad821, e821, hx821_0, hx821_1⟩ := at_T164 HR1.out x5_1 p821 q821
         obtain rfl : ad815 = ad821 := (by injection e821)
         replace p821 := eq_true p821
         replace q821 := eq_true q821
         go_wp2
         repeat (go_quiet (fail); try go_wp2)
         go_ret
         exact ⟨by first | rfl | (simp; done) | (simp [*]; done), by repeat (first | exact Drawn0.refl _ | apply Drawn0.step)⟩
        rw [if_neg c8] at H
        exact absurd H (by simp)
       rw [if_neg c7] at H
       exact absurd H (by simp)
      rw [if_neg c6] at H
      exact absurd H (by simp)
     replace c5 := Bool.eq_false_iff.mpr c5
     subst c5
     rw [if_neg (show ¬ (false = true) by decide)] at H
     obtain rfl := Option.some.inj H
     go_wp2
     repeat (go_quiet (fail); try go_wp2)
     go_ret
     exact ⟨by first | rfl | (simp; done) | (simp [*]; done), by repeat (first | exact Drawn0.refl _ | apply Drawn0.step)⟩
def impl_inserted.l0 : Nat → List (S44) → Int → List (S164) → Int → Int → ByteArray → Option ((List (S44)))
 | 0, _, _, _, _, _, _ => none
 | k + 1, x0, x5, x977000, x977001, x977002, x977003 => if x5 < (x0.length : Int) then (if 0 ≤ x5 then ((impl_SetLess.f k x977000 ((rd_T44 x0 x5).f0)).bind fun t978 => (if t978 = true then (if x5 ≤ (x0.length : Int) then ((impl_copyAlarms.f k (x0.take (x5 : Int).toNat)).bind fun t983 => ((impl_copyAlarm.f x977000 x977001 x977002 x977003).bind fun bt986 => (if t983.length < 2513169434916 then ((some (t983 ++ [(⟨bt986.1, bt986.2.1, bt986.2.2.1, bt986.2.2.2⟩ : S44)] : List (S44))).bind fun y992 => ((impl_copyAlarms.f k (x0.drop (x5 : Int).toNat)).bind fun t999 => (if y992.length + t999.length < 2513169434916 then (some (y992 ++ t999)) else (none)))) else (none)))) else (none)) else (impl_inserted.l0 k x0 (wrap64 (x5 + 1)) x977000 x977001 x977002 x977003))) else (none)) else (if 0 ≤ x5 then (if x5 ≤ (x0.length : Int) then ((impl_copyAlarms.f k (x0.take (x5 : Int).toNat)).bind fun t1009 => ((impl_copyAlarm.f x977000 x977001 x977002 x977003).bind fun bt1012 => (if t1009.length < 2513169434916 then ((some (t1009 ++ [(⟨bt1012.1, bt1012.2.1, bt1012.2.2.1, bt1012.2.2.2⟩ : S44)] : List (S44))).bind fun y1018 => ((impl_copyAlarms.f k (x0.drop (x5 : Int).toNat)).bind fun t1025 => (if y1018.length + t1025.length < 2513169434916 then (some (y1018 ++ t1025)) else (none)))) else (none)))) else (none)) else (none))
def impl_inserted.f (k : Nat) (l0 : List (S44)) (l1_0 : List (S164)) (a1_1 : Int) (a1_2 : Int) (a1_3 : ByteArray) : Option ((List (S44))) := impl_inserted.l0 k l0 0 l1_0 a1_1 a1_2 a1_3
theorem impl_inserted.mono_l : ∀ k, (∀ y0 y1 y2 y3 y4 y5, LeO (impl_inserted.l0 k y0 y1 y2 y3 y4 y5) (impl_inserted.l0 (k + 1) y0 y1 y2 y3 y4 y5))
 | 0 => fun _ _ _ _ _ _ r h => by simp [impl_inserted.l0] at h
 | k + 1 => by
  have ih0 := impl_inserted.mono_l k
  intro y0 y1 y2 y3 y4 y5
  unfold impl_inserted.l0
  repeat' first
  | (with_reducible exact ih0 _ _ _ _ _ _)
  | (with_reducible exact impl_SetLess.mono _ _ _)
  | (with_reducible exact impl_copyAlarms.mono _ _)
  | (with_reducible exact LeO.refl _)
  | (with_reducible exact LeO.none _)
  | (with_reducible refine LeO.ite ?_ ?_)
  | (with_reducible refine LeO.bind ?_ (fun _ => ?_))
  | exact ih0 _ _ _ _ _ _
  | exact impl_SetLess.mono _ _ _
  | exact impl_copyAlarms.mono _ _
theorem impl_inserted.mono : ∀ a0 a1 a2 a3 a4 k, LeO (impl_inserted.f k a0 a1 a2 a3 a4) (impl_inserted.f (k + 1) a0 a1 a2 a3 a4) := by
 intro a0 a1 a2 a3 a4 k
 have ih0 := impl_inserted.mono_l k
 unfold impl_inserted.f
 repeat' first
   | (with_reducible exact ih0 _ _ _ _ _ _)
   | (with_reducible exact impl_SetLess.mono _ _ _)
   | (with_reducible exact impl_copyAlarms.mono _ _)
   | (with_reducible exact LeO.refl _)
   | (with_reducible exact LeO.none _)
   | (with_reducible refine LeO.ite ?_ ?_)
   | (with_reducible refine LeO.bind ?_ (fun _ => ?_))
   | exact ih0 _ _ _ _ _ _
   | exact impl_SetLess.mono _ _ _
   | exact impl_copyAlarms.mono _ _
def impl_inserted.T2 : Bool × List (List Nat × List Nat) := (true, [([], []), ([], []), ([1], [1]), ([0, 2], [0, 2]), ([3], [3]), ([4], [4]), ([5, 4], [4, 5]), ([4], [4]), ([4], [4]), ([7, 8, 4], [4, 7, 8]), ([9, 4], [4, 9]), ([10, 4], [4, 10]), ([6, 11, 4, 4], [4, 6, 11]), ([12, 4], [4, 12]), ([4, 13], [4, 13])])
def impl_inserted.B2 : List Nat := [0, 0, 2, 7, 15, 31, 63, 31, 31, 415, 927, 1951, 4095, 8191, 16383]
theorem impl_inserted.tab2 : rtab .any (opsOf Try.f116 2) = impl_inserted.T2 := by kernel_rfl
theorem impl_inserted.bits2 : waitsOk impl_inserted.T2.2 impl_inserted.B2 = true := by kernel_rfl
def impl_inserted.T4 : Bool × List (List Nat × List Nat) := (true, [([], []), ([], []), ([0, 1], [0, 1]), ([2], [2]), ([], []), ([4, 3], [4]), ([5], [5]), ([3, 6, 5], [3, 6]), ([7, 7, 0, 1, 2, 3, 4, 5, 6, 7], [7])])
def impl_inserted.B4 : List Nat := [0, 0, 3, 7, 0, 31, 63, 127, 255]
theorem impl_inserted.tab4 : rtab .any (opsOf Try.f116 4) = impl_inserted.T4 := by kernel_rfl
theorem impl_inserted.bits4 : waitsOk impl_inserted.T4.2 impl_inserted.B4 = true := by kernel_rfl
theorem impl_inserted.calls (k : Nat) (A0 : Option Addr) (c0 : Nat) (l0 : List (S44)) (A1_0 : Option Addr) (c1_0 : Nat) (l1_0 : List (S164)) (a1_1 : Int) (a1_2 : Int) (a1_3 : ByteArray) (r : List (S44)) (w : World) (hr0 : Kd.C k44 w A0 l0.length l0) (hc0 : l0.length ≤ c0) (hr1_0 : Kd.C k164 w A1_0 l1_0.length l1_0) (hc1_0 : l1_0.length ≤ c1_0) (h : impl_inserted.f k l0 l1_0 a1_1 a1_2 a1_3 = some r) :
  Calls Try.prog 116 #[.slice A0 l0.length c0, .agg #[.slice A1_0 l1_0.length c1_0, .int .i64 a1_1, .int .i64 a1_2, .string a1_3]] w fun e w' => ∃ v0_ : Value, e = .returned (v0_) ∧ Kd.S k44 44 w' w.heap.size (fun _ => True) v0_ r ∧ Below w.heap.size w w' := by
 have hu44 := Try.underlying44
 have HR0 := Aside0.mk hr0
 have HC0 := Aside0.mk hc0
 clear hr0 hc0
 have HR1_0 := Aside0.mk hr1_0
 have HC1_0 := Aside0.mk hc1_0
 clear hr1_0 hc1_0
 have HB := Aside0.mk (Below.refl w.heap.size w)
 have H : (impl_inserted.l0 k l0 0 l1_0 a1_1 a1_2 a1_3) = some r := h
 clear h
 have H' := Aside0.mk H
 clear H
 go_enter Try.func116, Try.ntmps116
 go_wp2_with (first | ((with_reducible refine gate_dst (N := 3) rfl ?_); refine box_event ?hg (N := 3) ?hd (cs := #[.slice A1_0 l1_0.length c1_0, .int .i64 a1_1, .int .i64 a1_2, .string a1_3]) (t := 44) ?hr ?_; (case hd => rfl); (case hg => rfl); (case hr => first | (go_simp; done) | (go_simp; rfl)); intro gb976 hg w3 hbox hb; have n0_ := Aside0.mk (below_step (by repeat (first | (with_reducible first | exact HB.out | apply ba_ | apply bn_ | apply bd_) | exact HB.out)) hb); have BK976 := Aside0.mk (hbox); have GW976 := Aside0.mk ((by rw [hg]; exact (below_size (by repeat (first | (with_reducible first | exact HB.out | apply ba_ | apply bn_ | apply bd_) | exact HB.out))) : w.heap.size ≤ gb976)); have GE976 := GW976; clear HB; have HB := n0_; clear n0_; clear hb hbox hg))
 go_loopg [5] k (fun kq v5 w' => ∃ (x5_1 : Int), v5 = .int .i64 x5_1 ∧ Aside0 (impl_inserted.l0 kq l0 x5_1 l1_0 a1_1 a1_2 a1_3 = some r) ∧ Aside0 (kq ≤ k) ∧ Aside0 (w'.heap[gb976]? = some (.cells #[(.slice A1_0 l1_0.length c1_0), .int .i64 a1_1, .int .i64 a1_2, .string a1_3] 44 (0, 0))) ∧ Aside0 (Below w.heap.size w w'))
 case atStart => exact ⟨(0), (by first | rfl | (simp; done) | (simp [*]; done)), H', ⟨Nat.le_refl _⟩, ⟨by (with_reducible repeat (first | refine kn_ ?_ _ | refine kd_ ?_ | refine ka_ ?_ _)); exact BK976.out⟩, ⟨by repeat (first | (with_reducible first | exact HB.out | apply ba_ | apply bn_ | apply bd_ | refine below_set ?_ GE976.out) | exact HB.out)⟩⟩
 case round =>
  clear H'
  try clear c1
  try clear p2
  obtain ⟨x5_1, rfl, HA, HK1, BK976, HB⟩ := hrel
  cases gk with
  | zero => exact absurd HA.out (by simp [impl_inserted.l0])
  | succ k1 =>
   have H := HA.out
   clear HA
   simp only [impl_inserted.l0] at H
   by_cases c4 : x5_1 < (l0.length : Int)
   ·
    rw [if_pos c4] at H
    have c4b0 := decide_eq_true c4
    clear c4
    by_cases c5 : 0 ≤ x5_1
    ·
     rw [if_pos c5] at H
     have c5b0 := decide_eq_true c5
     clear c5
     replace H := Option.bind_eq_some_iff.mp H
     obtain ⟨t978, A60, H⟩ := H
     have A6 := Aside0.mk A60
     clear A60
     by_cases c7 : t978 = true
     ·
      subst c7
      rw [if_pos rfl] at H
      have c8b0 := eq_true (of_decide_eq_true (by with_reducible assumption) : 0 ≤ x5_1)
      by_cases c9 : x5_1 ≤ (l0.length : Int)
      ·
       rw [if_pos c9] at H
       have c9b0 := eq_true c9
       have c9b1 := decide_eq_true c9
       clear c9
       obtain ⟨y979, hy979⟩ : ∃ y_ : List (S44), y_ = (l0.take (x5_1 : Int).toNat) := ⟨_, rfl⟩
       replace H : ((impl_copyAlarms.f k1 y979).bind fun t983 => ((impl_copyAlarm.f l1_0 a1_1 a1_2 a1_3).bind fun bt986 => (if t983.length < 2513169434916 then ((some (t983 ++ [(⟨bt986.1, bt986.2.1, bt986.2.2.1, bt986.2.2.2⟩ : S44)] : List (S44))).bind fun y992 => ((impl_copyAlarms.f k1 (l0.drop (x5_1 : Int).toNat)).bind fun t999 => (if y992.length + t999.length < 2513169434916 then (some (y992 ++ t999)) else (none)))) else (none)))) = some r := by first | (rw [hy979]; with_reducible exact H) | (have H2_ := (Option.bind_some _ _).symm.trans H; rw [hy979]; with_reducible exact H2_) | (have H2_ := (Option.bind_some _ _).symm.trans H; with_reducible exact H2_) | with_reducible exact H | (rw [hy979]; exact H) | exact H
       have Ny979 := Aside0.mk hy979
       clear hy979
       replace H := Option.bind_eq_some_iff.mp H
       obtain ⟨t983, A100, H⟩ := H
       have A10 := Aside0.mk A100
       clear A100
       replace H := Option.bind_eq_some_iff.mp H
       obtain ⟨⟨t986, t989, t990, t991⟩, A110, H⟩ := H
       have A11 := Aside0.mk A110
       clear A110
       by_cases c12 : t983.length < 2513169434916
       ·
        rw [if_pos c12] at H
        have LMc12 := Aside0.mk c12
        clear c12
        obtain ⟨y992, hy992⟩ : ∃ y_ : List (S44), y_ = (t983 ++ [(⟨t986, t989, t990, t991⟩ : S44)]) := ⟨_, rfl⟩
        replace H : ((impl_copyAlarms.f k1 (l0.drop (x5_1 : Int).toNat)).bind fun t999 => (if y992.length + t999.length < 2513169434916 then (some (y992 ++ t999)) else (none))) = some r := by first | (rw [hy992]; with_reducible exact H) | (have H2_ := (Option.bind_some _ _).symm.trans H; rw [hy992]; with_reducible exact H2_) | (have H2_ := (Option.bind_some _ _).symm.trans H; with_reducible exact H2_) | with_reducible exact H | (rw [hy992]; exact H) | exact H
        have Ny992 := Aside0.mk hy992
        clear hy992
        have c13b0 := eq_true (of_decide_eq_true (by with_reducible assumption) : 0 ≤ x5_1)
        have c14b0 := eq_true (of_decide_eq_true (by with_reducible assumption) : x5_1 ≤ (l0.length : Int))
        obtain ⟨y995, hy995⟩ : ∃ y_ : List (S44), y_ = (l0.drop (x5_1 : Int).toNat) := ⟨_, rfl⟩
        replace H : ((impl_copyAlarms.f k1 y995).bind fun t999 => (if y992.length + t999.length < 2513169434916 then (some (y992 ++ t999)) else (none))) = some r := by first | (rw [hy995]; with_reducible exact H) | (have H2_ := (Option.bind_some _ _).symm.trans H; rw [hy995]; with_reducible exact H2_) | (have H2_ := (Option.bind_some _ _).symm.trans H; with_reducible exact H2_) | with_reducible exact H | (rw [hy995]; exact H) | exact H
        have Ny995 := Aside0.mk hy995
        clear hy995
        replace H := Option.bind_eq_some_iff.mp H
        obtain ⟨t999, A150, H⟩ := H
        have A15 := Aside0.mk A150
        clear A150
        by_cases c16 : y992.length + t999.length < 2513169434916
        ·
         rw [if_pos c16] at H
         have LMc16 := Aside0.mk c16
         clear c16
         obtain ⟨y1002, hy1002⟩ : ∃ y_ : List (S44), y_ = (y992 ++ t999) := ⟨_, rfl⟩
         replace H : (some y1002) = some r := by first | (rw [hy1002]; with_reducible exact H) | (have H2_ := (Option.bind_some _ _).symm.trans H; rw [hy1002]; with_reducible exact H2_) | (have H2_ := (Option.bind_some _ _).symm.trans H; with_reducible exact H2_) | with_reducible exact H | (rw [hy1002]; exact H) | exact H
         have Ny1002 := Aside0.mk hy1002
         clear hy1002
         obtain rfl := Option.some.inj H
         try go_wp2
         have n0_ := Aside0.mk (blk_drew BK976.out)
         have n1_ := Aside0.mk (bd_ HB.out)
         clear BK976 HB
         have BK976 := n0_
         have HB := n1_
         clear n0_ n1_
         have p977 : 0 ≤ (x5_1 : Int) := of_decide_eq_true (by with_reducible assumption)
         have q977 : x5_1 < (l0.length : Int) := of_decide_eq_true (by with_reducible assumption)
         obtain ⟨ad977, A977_0, c977_0, e977, hx977_0, hx977_1, hx977_2, hx977_3, hl977_0, hi977_0⟩ := at_T44 HR0.out x5_1 p977 q977
         have hw977_3 := hx977_3
         have hw977_2 := hx977_2
         have hw977_1 := hx977_1
         have hw977_0 := hx977_0
         cases e977
         replace hx977_0 := cl_ HB.out hx977_0
         replace hx977_1 := cl_ HB.out hx977_1
         replace hx977_2 := cl_ HB.out hx977_2
         replace hx977_3 := cl_ HB.out hx977_3
         have HR977_0 := Aside0.mk hi977_0
         have HC977_0 := Aside0.mk hl977_0
         clear hi977_0 hl977_0
         replace p977 := eq_true p977
         replace q977 := eq_true q977
         refine start_ (n := 15) (S := fun w' => w'.cell? ⟨gb976, 0, none⟩ = some (.slice A1_0 l1_0.length c1_0) ∧ w'.cell? ⟨gb976, 1, none⟩ = some (.int .i64 a1_1) ∧ w'.cell? ⟨gb976, 2, none⟩ = some (.int .i64 a1_2) ∧ w'.cell? ⟨gb976, 3, none⟩ = some (.string a1_3) ∧ w'.cell? (ad977.add ((x5_1).toNat * 4)) = some (.slice A977_0 ((rd_T44 l0 x5_1).f0).length c977_0) ∧ w'.cell? ⟨(ad977.add ((x5_1).toNat * 4)).block, (ad977.add ((x5_1).toNat * 4)).off + 1, none⟩ = some (.int .i64 ((rd_T44 l0 x5_1).f1)) ∧ w'.cell? ⟨(ad977.add ((x5_1).toNat * 4)).block, (ad977.add ((x5_1).toNat * 4)).off + 2, none⟩ = some (.int .i64 ((rd_T44 l0 x5_1).f2)) ∧ w'.cell? ⟨(ad977.add ((x5_1).toNat * 4)).block, (ad977.add ((x5_1).toNat * 4)).off + 3, none⟩ = some (.string ((rd_T44 l0 x5_1).f3))) (ds := []) #[f_,f_,f_,f_,f_,f_,f_,f_,f_,f_,f_,f_,f_,f_,f_] (by kernel_rfl) rfl rfl ⟨bx_ BK976.out 0, bx_ BK976.out 1, bx_ BK976.out 2, bx_ BK976.out 3, ((HB.out.cell (World.block_lt_of_cell? w _ hw977_0)).trans hw977_0), ((HB.out.cell (World.block_lt_of_cell? w _ hw977_1)).trans hw977_1), ((HB.out.cell (World.block_lt_of_cell? w _ hw977_2)).trans hw977_2), ((HB.out.cell (World.block_lt_of_cell? w _ hw977_3)).trans hw977_3)⟩ (fun hHeld => ?_); refine with_tabW impl_inserted.tab2 impl_inserted.bits2 (fun HT_ HW_ => ?_)
         generalize wr.drew = w17 at BK976 HB HR977_0 hx977_0 hx977_1 hx977_2 hx977_3 hHeld ⊢
         refine pu_ 0 7 ?_ (b_ 1 14) rfl rfl HT_.out ?_ ?_ ?_ ?_; rotate_left; intro w'; go_simp; with_reducible rfl; rotate_left; simp only [fr_]; rfl
         refine pu_ 1 8 ?_ (b_ 2 13) rfl rfl HT_.out ?_ ?_ ?_ ?_; rotate_left; intro w'; go_simp; with_reducible rfl; rotate_left; simp only [fr_]; rfl
         refine pu_ 2 9 ?_ (b_ 3 12) rfl rfl HT_.out ?_ ?_ ?_ ?_; rotate_left; intro w'; go_simp; with_reducible rfl; rotate_left; simp only [fr_]; rfl
         refine pu_ 3 10 ?_ (b_ 4 11) rfl rfl HT_.out ?_ ?_ ?_ ?_; rotate_left; intro w'; go_simp; with_reducible rfl; rotate_left; simp only [fr_]; rfl
         refine pu_ 4 11 ?_ (b_ 5 10) rfl rfl HT_.out ?_ ?_ ?_ ?_; rotate_left; intro w'; go_simp; with_reducible rfl; rotate_left; simp only [fr_]; rfl
         refine pu_ 5 12 ?_ (b_ 6 9) rfl rfl HT_.out ?_ ?_ ?_ ?_; rotate_left; intro w'; go_simp; with_reducible rfl; rotate_left; simp only [fr_]; rfl
         refine pu_ 7 14 ?_ #[t_,t_,t_,t_,t_,t_,f_,t_,f_,f_,f_,f_,f_,f_,f_] rfl rfl HT_.out ?_ ?_ ?_ ?_; rotate_left; intro w'; go_simp; with_reducible rfl; rotate_left; simp only [fr_]; rfl
         refine pu_ 8 15 ?_ #[t_,t_,t_,t_,t_,t_,f_,t_,t_,f_,f_,f_,f_,f_,f_] rfl rfl HT_.out ?_ ?_ ?_ ?_; rotate_left; intro w'; go_simp; with_reducible rfl; rotate_left; simp only [fr_]; rfl
         refine pu_ 9 16 ?_ #[t_,t_,t_,t_,t_,t_,f_,t_,t_,t_,f_,f_,f_,f_,f_] rfl rfl HT_.out ?_ ?_ ?_ ?_; rotate_left; intro w'; go_simp; with_reducible rfl; rotate_left; simp only [fr_]; rfl
         refine pu_ 10 17 ?_ #[t_,t_,t_,t_,t_,t_,f_,t_,t_,t_,t_,f_,f_,f_,f_] rfl rfl HT_.out ?_ ?_ ?_ ?_; rotate_left; intro w'; go_simp; with_reducible rfl; rotate_left; simp only [fr_]; rfl
         refine take_ (i := 6) (N := some 13) (v := ?_) (a' := ?_) #[t_,t_,t_,t_,t_,t_,t_,t_,t_,t_,t_,f_,f_,f_,f_] rfl rfl (take_ofW HT_.out HW_.out (by kernel_rfl)) (fun _ _ _ h => h) (Or.inl ⟨by rfl, ?_⟩) hHeld ?_ ?_
         rotate_left
         ·
          rintro w' ⟨s0, s1, s2, s3, s4, s5, s6, s7⟩
          go_simp
          with_reducible rfl
         rotate_left
         ·
          simp only [fr_]
          rfl
         refine take_ (i := 11) (N := some 18) (v := ?_) (a' := ?_) #[t_,t_,t_,t_,t_,t_,t_,t_,t_,t_,t_,t_,f_,f_,f_] rfl rfl (take_ofW HT_.out HW_.out (by kernel_rfl)) (fun _ _ _ h => h) (Or.inl ⟨by rfl, ?_⟩) hHeld ?_ ?_
         rotate_left
         ·
          rintro w' ⟨s0, s1, s2, s3, s4, s5, s6, s7⟩
          go_simp
          with_reducible rfl
         rotate_left
         ·
          simp only [fr_]
          rfl
         refine one_ (i := 12) (N := some 19) #[t_,t_,t_,t_,t_,t_,t_,t_,t_,t_,t_,t_,t_,f_,f_] rfl rfl (one_of HT_.out (by kernel_rfl)) (by decide) (fun K hK => ?_)
         refine goes_ Try.func153 (by kernel_rfl) rfl #[.slice A1_0 l1_0.length c1_0, .slice A977_0 ((rd_T44 l0 x5_1).f0).length c977_0] (by rfl) rfl rfl (by (try simp only [mp_]); first | done | rfl | (simp only [List.length_drop, List.length_take]; rfl)) ?_
         with_reducible refine (impl_SetLess.calls k1 _ _ l1_0 _ _ ((rd_T44 l0 x5_1).f0) true _ ?side1 ?side2 ?side3 ?side4 A6.out).mono ?_
         (case side1 => repeat (first | exact (Kd.C_below HR1_0.out HB.out) | (with_reducible first | refine ca_ ?_ _ | refine cn_ ?_ _ | refine cd_ ?_)))
         (case side2 => exact HC1_0.out)
         (case side3 => repeat (first | exact (Kd.C_below HR977_0.out HB.out) | (with_reducible first | refine ca_ ?_ _ | refine cn_ ?_ _ | refine cd_ ?_)))
         (case side4 => exact HC977_0.out)
         rintro e w' ⟨rfl, ⟨nd, rfl⟩⟩
         refine ⟨_, rfl, ?_⟩
         refine hK.out _ _ ⟨bx_ BK976.out 0, bx_ BK976.out 1, bx_ BK976.out 2, bx_ BK976.out 3, ((HB.out.cell (World.block_lt_of_cell? w _ hw977_0)).trans hw977_0), ((HB.out.cell (World.block_lt_of_cell? w _ hw977_1)).trans hw977_1), ((HB.out.cell (World.block_lt_of_cell? w _ hw977_2)).trans hw977_2), ((HB.out.cell (World.block_lt_of_cell? w _ hw977_3)).trans hw977_3)⟩ (fun hHeld => ?_)
         clear hK K
         refine norm_ (a' := ?_) ?_ ?_
         rotate_left
         ·
          show Act.put _ (some 19) _ = _
          simp only [fr_]
          rfl
         refine pu_ 13 20 ?_ (b_ 14 1) rfl rfl HT_.out ?_ ?_ ?_ ?_; rotate_left; intro w'; go_simp; with_reducible rfl; rotate_left; simp only [fr_]; rfl
         refine pu_ 14 21 ?_ (b_ 15 0) rfl rfl HT_.out ?_ ?_ ?_ ?_; rotate_left; intro w'; go_simp; with_reducible rfl; rotate_left; simp only [fr_]; rfl
         refine done_ (done_of HT_.out (by kernel_rfl)) ?_
         try go_wp2
         (try (rw [drewN_self w17]; generalize hq_ : World.drewN w17 _ = w17; have n0_ : Aside0 (w17.heap[gb976]? = some (.cells #[.slice A1_0 l1_0.length c1_0, .int .i64 a1_1, .int .i64 a1_2, .string a1_3] 44 (0, 0))) := ⟨by rw [← hq_]; exact (pb_ BK976.out)⟩; have n1_ : Aside0 (Below w.heap.size w w17) := ⟨by rw [← hq_]; exact (by repeat (first | (with_reducible first | exact HB.out | apply ba_ | apply bn_ | apply bd_ | refine below_set ?_ GE976.out) | exact HB.out))⟩; clear BK976 HB hq_; have BK976 := n0_; have HB := n1_; clear n0_ n1_))
         have n0_ := Aside0.mk (blk_drew BK976.out)
         have n1_ := Aside0.mk (bd_ HB.out)
         clear BK976 HB
         have BK976 := n0_
         have HB := n1_
         clear n0_ n1_
         have q19 : (x5_1 : Int) ≤ ((l0.length : Int) : Int) := of_decide_eq_true (by with_reducible assumption)
         obtain ⟨i019, hi019, _, hsz19, _⟩ := info_parts info44
         have hroom19 : l0.length ≤ c0 := HC0.out
         have hC19 : Kd.C k44 _ (some ad977) l0.length l0 := HR0.out
         have hcut19 := cut_to (P := Try.prog) 37 44 .i64 Try.underlying37 hi019 (some ad977) l0.length c0 x5_1 (of_decide_eq_true (by with_reducible assumption)) q19 hroom19
         have hr19 := Kd.C_take (m := (x5_1 : Int).toNat) hC19 (by omega)
         have hy19 : y979.length = (x5_1 : Int).toNat := (by rw [Ny979.out, List.length_take]; omega)
         rw [← Ny979.out] at hr19
         rw [← hy19] at hcut19
         have HR982 := Aside0.mk hr19
         have HC982 := Aside0.mk (show y979.length ≤ c0 from by omega)
         clear hr19 hC19 hroom19 hi019 hsz19
         have KY19 := Aside0.mk hy19
         clear hy19
         replace q19 := eq_true q19
         refine start_ (n := 9) (S := fun w' => w'.cell? ⟨gb976, 0, none⟩ = some (.slice A1_0 l1_0.length c1_0) ∧ w'.cell? ⟨gb976, 1, none⟩ = some (.int .i64 a1_1) ∧ w'.cell? ⟨gb976, 2, none⟩ = some (.int .i64 a1_2) ∧ w'.cell? ⟨gb976, 3, none⟩ = some (.string a1_3)) (ds := []) #[f_,f_,f_,f_,f_,f_,f_,f_,f_] (by kernel_rfl) rfl rfl ⟨bx_ BK976.out 0, bx_ BK976.out 1, bx_ BK976.out 2, bx_ BK976.out 3⟩ (fun hHeld => ?_); refine with_tabW impl_inserted.tab4 impl_inserted.bits4 (fun HT_ HW_ => ?_)
         generalize w17.drew = w18 at BK976 HB HR982 hHeld ⊢
         refine pu_ 0 24 ?_ (b_ 1 8) rfl rfl HT_.out ?_ ?_ ?_ ?_; rotate_left; intro w'; go_simp; with_reducible rfl; rotate_left; simp only [fr_]; rfl
         refine pu_ 1 25 ?_ (b_ 2 7) rfl rfl HT_.out ?_ ?_ ?_ ?_; rotate_left; intro w'; go_simp; with_reducible rfl; rotate_left; simp only [fr_]; rfl
         refine pu_ 2 26 ?_ (b_ 3 6) rfl rfl HT_.out ?_ ?_ ?_ ?_; rotate_left; intro w'; go_simp; with_reducible rfl; rotate_left; simp only [fr_]; rfl
         refine take_ (i := 4) (N := some 28) (v := ?_) (a' := ?_) #[t_,t_,t_,f_,t_,f_,f_,f_,f_] rfl rfl (take_ofW HT_.out HW_.out (by kernel_rfl)) (fun _ _ _ h => h) (Or.inl ⟨by rfl, ?_⟩) hHeld ?_ ?_
         rotate_left
         ·
          rintro w' ⟨s0, s1, s2, s3⟩
          go_simp
          with_reducible rfl
         rotate_left
         ·
          simp only [fr_]
          rfl
         refine one_ (i := 3) (N := some 27) #[t_,t_,t_,t_,t_,f_,f_,f_,f_] rfl rfl (one_of HT_.out (by kernel_rfl)) (by decide) (fun K hK => ?_)
         refine goes_ Try.func101 (by kernel_rfl) rfl #[.slice (some ad977) y979.length c0] (by rfl) rfl rfl (by (try simp only [mp_]); first | done | rfl | (simp only [List.length_drop, List.length_take]; rfl)) ?_
         with_reducible refine (impl_copyAlarms.calls k1 _ _ y979 t983 _ ?side1 ?side2 A10.out).mono ?_
         (case side1 => repeat (first | exact (Kd.C_below HR982.out HB.out) | (with_reducible first | refine ca_ ?_ _ | refine cn_ ?_ _ | refine cd_ ?_)))
         (case side2 => exact HC982.out)
         rintro e w20 ⟨v984, rfl, ho0, hb⟩
         refine ⟨_, rfl, ?_⟩
         obtain ⟨gbz984, hz984⟩ := Kd.S_name ho0
         have n0_ := Aside0.mk (Kd.S_lower (Kd.S_newB (Kd.S_gez hz984 ho0) (g := gb976) (o := .cells #[.slice A1_0 l1_0.length c1_0, .int .i64 a1_1, .int .i64 a1_2, .string a1_3] 44 (0, 0)) (pb_ BK976.out)) (below_size (by repeat (first | (with_reducible first | exact HB.out | apply ba_ | apply bn_ | apply bd_ | refine below_set ?_ GE976.out) | exact HB.out))))
         have n1_ := Aside0.mk (bb_ BK976.out hb)
         have n2_ := Aside0.mk (below_step (by repeat (first | (with_reducible first | exact HB.out | apply ba_ | apply bn_ | apply bd_ | refine below_set ?_ GE976.out) | exact HB.out)) hb)
         clear BK976 HB
         have HO985 := n0_
         have BK976 := n1_
         have HB := n2_
         clear n0_ n1_ n2_
         (try clear hb)
         (try clear hb2)
         (try clear hk)
         (try clear hi)
         (try clear ho0)
         refine hK.out _ _ ⟨bx_ BK976.out 0, bx_ BK976.out 1, bx_ BK976.out 2, bx_ BK976.out 3⟩ (fun hHeld => ?_)
         clear hK K
         refine norm_ (a' := ?_) ?_ ?_
         rotate_left
         ·
          show Act.put _ (some 27) _ = _
          simp only [fr_]
          rfl
         refine one_ (i := 5) (N := some 29) #[t_,t_,t_,t_,t_,t_,f_,f_,f_] rfl rfl (one_of HT_.out (by kernel_rfl)) (by decide) (fun K hK => ?_)
         refine goes_ Try.func97 (by kernel_rfl) rfl #[.agg #[.slice A1_0 l1_0.length c1_0, .int .i64 a1_1, .int .i64 a1_2, .string a1_3]] (by rfl) rfl rfl (by (try simp only [mp_]); first | done | rfl | (simp only [List.length_drop, List.length_take]; rfl)) ?_
         with_reducible refine (impl_copyAlarm.calls _ _ l1_0 a1_1 a1_2 a1_3 t986 t989 t990 t991 _ ?side1 ?side2 A11.out).mono ?_
         (case side1 => repeat (first | exact (Kd.C_below HR1_0.out HB.out) | (with_reducible first | refine ca_ ?_ _ | refine cn_ ?_ _ | refine cd_ ?_)))
         (case side2 => exact HC1_0.out)
         rintro e w21 ⟨v987, rfl, ho0, hb⟩
         refine ⟨_, rfl, ?_⟩
         obtain ⟨gbz987, hz987⟩ := Kd.R_name ho0
         have n0_ := Aside0.mk (Kd.S_below (Kd.S_ltz hz987 (sp_ HO985.out)) hb)
         have n1_ := Aside0.mk (Kd.R_lower (Kd.R_gez hz987 ho0) (below_size (by repeat (first | (with_reducible first | exact HB.out | apply ba_ | apply bn_ | apply bd_ | refine below_set ?_ GE976.out) | exact HB.out))))
         have n2_ := Aside0.mk (bb_ BK976.out hb)
         have n3_ := Aside0.mk (below_step (by repeat (first | (with_reducible first | exact HB.out | apply ba_ | apply bn_ | apply bd_ | refine below_set ?_ GE976.out) | exact HB.out)) hb)
         clear HO985 BK976 HB
         have HO985 := n0_
         have HO988 := n1_
         have BK976 := n2_
         have HB := n3_
         clear n0_ n1_ n2_ n3_
         (try clear hb)
         (try clear hb2)
         (try clear hk)
         (try clear hi)
         (try clear ho0)
         obtain ⟨Ao23, co23, eo23⟩ := Kd.R_slice HO988.out
         (first | subst eo23 | (injection eo23 with f1_ f2_ f3_; have f4_ := f1_.symm; have f5_ := f3_.symm; clear f1_ f2_ f3_; subst f4_; subst f5_))
         refine hK.out _ _ ⟨bx_ BK976.out 0, bx_ BK976.out 1, bx_ BK976.out 2, bx_ BK976.out 3⟩ (fun hHeld => ?_)
         clear hK K
         refine norm_ (a' := ?_) ?_ ?_
         rotate_left
         ·
          show Act.put _ (some 29) _ = _
          simp only [fr_]
          rfl
         refine one_ (i := 6) (N := some 30) #[t_,t_,t_,t_,t_,t_,t_,f_,f_] rfl rfl (one_of HT_.out (by kernel_rfl)) (by decide) (fun K hK => ?_)
         refine value_ (w1 := ?_) (v := ?_) (by rfl) rfl ?_ ?_
         rotate_left 2
         ·
          go_simp
          constructor
          ·
           rfl
          rfl
         refine hK.out _ _ ⟨(blk_cell (blk_alloc BK976.out _) 0).trans rfl, (blk_cell (blk_alloc BK976.out _) 1).trans rfl, (blk_cell (blk_alloc BK976.out _) 2).trans rfl, (blk_cell (blk_alloc BK976.out _) 3).trans rfl⟩ (fun hHeld => ?_)
         clear hK K
         refine norm_ (a' := ?_) ?_ ?_
         rotate_left
         ·
          show Act.put _ (some 30) _ = _
          simp only [fr_]
          rfl
         refine one_ (i := 7) (N := some 31) #[t_,t_,t_,t_,t_,t_,t_,t_,f_] rfl rfl (one_of HT_.out (by kernel_rfl)) (by decide) (fun K hK => ?_)
         refine Kd.S_append_step k44 (w0 := w) w.heap.size (by rfl) (.tmp 27) (.tmp 30) 37 44 (.agg #[(.slice none 0 0), (.int .i64 0), (.int .i64 0), (.string ⟨#[]⟩)]) 56 rfl Try.underlying37 info44 rfl (by decide) (by omega) v984 t983 (⟨t986, t989, t990, t991⟩ : S44) [.slice Ao23 t986.length co23, .int .i64 t989, .int .i64 t990, .string t991] (fun k_ => k_ ≠ gb976) (fun k_ => some k_ = (.slice Ao23 t986.length co23 : Value).ownBlock) rfl rfl ?aP (fun k_ hk_ => ((Kd.R_mono (ok' := fun k_ => ((fun k_ => k_ ≠ gb976)) k_ ∧ some k_ ≠ (v984 : Value).ownBlock) (Kd.R_types (Kd.R_apart' (HO988.out) (Kd.S_typed HO985.out) (by decide)) BK976.out (by decide)) (fun k_ hk => ⟨hk.2, hk.1.2⟩))).1 k_ hk_.symm) ?aF ?aO ?aB ?aS ?aL ?_
         (case aP => exact k44_mkM _ _ _ (⟨t986, t989, t990, t991⟩ : S44) (Kd.R_mono (Kd.R_tight rfl (Kd.R_mono (ok' := fun k_ => ((fun k_ => k_ ≠ gb976)) k_ ∧ some k_ ≠ (v984 : Value).ownBlock) (Kd.R_types (Kd.R_apart' (HO988.out) (Kd.S_typed HO985.out) (by decide)) BK976.out (by decide)) (fun k_ hk => ⟨hk.2, hk.1.2⟩))) (fun _ h_ => h_)))
         (case aB => exact (by repeat (first | (with_reducible first | exact HB.out | apply ba_ | apply bn_ | apply bd_ | refine below_set ?_ GE976.out) | exact HB.out)))
         (case aF => exact (fun k_ hk => Kd.freshB (g := gb976) (o := .cells #[.slice A1_0 l1_0.length c1_0, .int .i64 a1_1, .int .i64 a1_2, .string a1_3] 44 (0, 0)) (pb_ BK976.out) k_ hk))
         (case aO => exact (by (with_reducible repeat (first | apply Kd.S_alloc | apply Kd.S_drewN | apply Kd.S_drew)); exact Kd.S_mono HO985.out (fun k_ hk => ⟨hk.1.2, fun e_ => (fun ez_ => Nat.lt_irrefl _ (Nat.lt_of_lt_of_le hk.2 (HO988.out.1 _ ez_.symm).2)) e_⟩)))
         (case aS => exact (below_size (by repeat (first | (with_reducible first | exact HB.out | apply ba_ | apply bn_ | apply bd_ | refine below_set ?_ GE976.out) | exact HB.out))))
         (case aL => have := LMc12.out; omega)
         intro v993 w22 ho hb hg hat
         rw [← Ny992.out] at ho
         have n0_ := Aside0.mk (blk_grown (g := gb976) (o := .cells #[.slice A1_0 l1_0.length c1_0, .int .i64 a1_1, .int .i64 a1_2, .string a1_3] 44 (0, 0)) (pb_ BK976.out) hg (Kd.S_away HO985.out (fun _ hk => hk.1.2)))
         have n1_ := Aside0.mk (hb)
         have n2_ := Aside0.mk (ho)
         clear BK976 HB HO985 HO988
         have BK976 := n0_
         have HB := n1_
         have HO994 := n2_
         clear n0_ n1_ n2_ ho hb hg hat
         refine hK.out _ _ ⟨bx_ BK976.out 0, bx_ BK976.out 1, bx_ BK976.out 2, bx_ BK976.out 3⟩ (fun hHeld => ?_)
         clear hK K
         refine norm_ (a' := ?_) ?_ ?_
         rotate_left
         ·
          show Act.put _ (some 31) _ = _
          simp only [fr_]
          rfl
         refine pu_ 8 6 ?_ (b_ 9 0) rfl rfl HT_.out ?_ ?_ ?_ ?_; rotate_left; intro w'; go_simp; with_reducible rfl; rotate_left; simp only [fr_]; rfl
         refine done_ (done_of HT_.out (by kernel_rfl)) ?_
         have q24 : (x5_1 : Int) ≤ ((l0.length : Int) : Int) := of_decide_eq_true (by with_reducible assumption)
         obtain ⟨i024, hi024, _, hsz24, _⟩ := info_parts info44
         have hroom24 : l0.length ≤ c0 := HC0.out
         have hC24 : Kd.C k44 _ (some ad977) l0.length l0 := HR0.out
         have q024 : (0 : Int) ≤ (x5_1 : Int) := of_decide_eq_true (by with_reducible assumption)
         have hcut24 := cut_from (P := Try.prog) 37 44 .i64 Try.underlying37 hi024 4 hsz24 (some ad977) l0.length c0 x5_1 q024 q24
         have hr24 := Kd.C_drop (m := (x5_1 : Int).toNat) (c := c0) hC24 (by omega) hroom24
         obtain ⟨A24, hA24⟩ : ∃ A1, A1 = (if c0 = (x5_1 : Int).toNat then (some ad977) else ((some ad977) : Option Addr).map (·.add ((x5_1 : Int).toNat * 4))) := ⟨_, rfl⟩
         obtain ⟨c24, hc24⟩ : ∃ c1, c1 = c0 - (x5_1 : Int).toNat := ⟨_, rfl⟩
         have hy24 : y995.length = l0.length - (x5_1 : Int).toNat := (by rw [Ny995.out, List.length_drop] <;> omega)
         rw [show (l0).drop (x5_1 : Int).toNat = y995 from Ny995.out.symm] at hr24
         replace hr24 : Kd.C k44 _ A24 y995.length y995 := (by rw [hA24]; exact hr24)
         rw [← hy24, ← hA24, ← hc24] at hcut24
         have HR998 := Aside0.mk hr24
         have HC998 := Aside0.mk (show y995.length ≤ c24 from by rw [hy24, hc24]; exact Nat.sub_le_sub_right hroom24 _)
         clear hr24 hC24 hroom24 hi024 hsz24 hc24
         have KY24 := Aside0.mk hy24
         have KA24 := Aside0.mk hA24
         clear hy24 hA24
         replace q24 := eq_true q24
         try go_wp2_with (first | ((with_reducible refine gate_callee (f := 101) rfl ?_); refine goesL_ (some 36) rfl rfl Try.func101 (by kernel_rfl) rfl #[.slice A24 y995.length c24] rfl (by (try simp only [mp_]); first | done | rfl | (simp only [List.length_drop, List.length_take]; rfl)) ?_; (with_reducible refine (impl_copyAlarms.calls k1 _ _ y995 t999 _ ?side1 ?side2 A15.out).mono ?_); (case side1 => repeat (first | exact (Kd.C_below HR998.out HB.out) | (with_reducible first | refine ca_ ?_ _ | refine cn_ ?_ _ | refine cd_ ?_))); (case side2 => exact HC998.out); rintro e w25 ⟨v1000, rfl, ho0, hb⟩; refine ⟨_, rfl, ?_⟩; obtain ⟨gbz1000, hz1000⟩ := Kd.S_name ho0; have n0_ := Aside0.mk (Kd.S_below (Kd.S_ltz hz1000 (sp_ HO994.out)) hb); have n1_ := Aside0.mk (Kd.S_lower (Kd.S_newB (Kd.S_gez hz1000 ho0) (g := gb976) (o := .cells #[.slice A1_0 l1_0.length c1_0, .int .i64 a1_1, .int .i64 a1_2, .string a1_3] 44 (0, 0)) (pb_ BK976.out)) (below_size (by repeat (first | (with_reducible first | exact HB.out | apply ba_ | apply bn_ | apply bd_ | refine below_set ?_ GE976.out) | exact HB.out)))); have n2_ := Aside0.mk (bb_ BK976.out hb); have n3_ := Aside0.mk (below_step (by repeat (first | (with_reducible first | exact HB.out | apply ba_ | apply bn_ | apply bd_ | refine below_set ?_ GE976.out) | exact HB.out)) hb); clear HO994 BK976 HB; have HO994 := n0_; have HO1001 := n1_; have BK976 := n2_; have HB := n3_; clear n0_ n1_ n2_ n3_; (try clear hb); (try clear hb2); (try clear hk); (try clear hi); (try clear ho0); obtain ⟨Ao27, co27, eo27⟩ := Kd.S_slice HO1001.out; subst eo27; obtain ⟨PXP28, hPXP28, hPlP28⟩ := Kd.S_fp ((Kd.S_mono HO1001.out (fun k_ hk => (⟨hk, fun ez_ => Nat.lt_irrefl _ (Nat.lt_of_lt_of_le ((Kd.S_R HO994.out).1 _ ez_.symm).2 hk.1.2)⟩ : _ ∧ some k_ ≠ (v993 : Value).ownBlock))))) | ((with_reducible refine gate_builtin (b := .append) (xs := #[.tmp 32, .tmp 36]) rfl ?_); at_builtin; refine Kd.S_append_rows k44 (w0 := w) w.heap.size rfl (.tmp 32) (.tmp 36) 37 44 (.agg #[(.slice none 0 0), (.int .i64 0), (.int .i64 0), (.string ⟨#[]⟩)]) 56 rfl Try.underlying37 info44 rfl (by decide) (by omega) v993 y992 t999 _ _ _ (fun k_ => k_ ≠ gb976) PXP28 rfl rfl ?aR (fun k_ hk_ => ⟨(hPlP28 k_ hk_).1.1.2, (hPlP28 k_ hk_).1.2⟩) ?aF ?aO ?aB ?aS ?aL ?_; (case aR => exact hPXP28); (case aB => exact (by repeat (first | (with_reducible first | exact HB.out | apply ba_ | apply bn_ | apply bd_ | refine below_set ?_ GE976.out) | exact HB.out))); (case aF => exact (fun k_ hk => Kd.freshB (g := gb976) (o := .cells #[.slice A1_0 l1_0.length c1_0, .int .i64 a1_1, .int .i64 a1_2, .string a1_3] 44 (0, 0)) (pb_ BK976.out) k_ hk)); (case aO => exact (by (with_reducible repeat (first | apply Kd.S_alloc | apply Kd.S_drewN | apply Kd.S_drew)); exact Kd.S_mono HO994.out (fun k_ hk => ⟨hk.1, fun e_ => (fun ez_ => Nat.lt_irrefl _ (Nat.lt_of_lt_of_le hk.2 (hPlP28 _ ez_).1.1.1.2)) e_⟩))); (case aS => exact (below_size (by repeat (first | (with_reducible first | exact HB.out | apply ba_ | apply bn_ | apply bd_ | refine below_set ?_ GE976.out) | exact HB.out)))); (case aL => have := LMc16.out; omega); intro v1003 w26 ho hb hg hat; rw [← Ny1002.out] at ho; have n0_ := Aside0.mk (blk_grown (g := gb976) (o := .cells #[.slice A1_0 l1_0.length c1_0, .int .i64 a1_1, .int .i64 a1_2, .string a1_3] 44 (0, 0)) (pb_ BK976.out) hg (Kd.S_away HO994.out (fun _ hk => hk.1))); have n1_ := Aside0.mk (hb); have n2_ := Aside0.mk (ho); clear BK976 HB HO994 HO1001; have BK976 := n0_; have HB := n1_; have HO1004 := n2_; clear n0_ n1_ n2_; clear ho hb hg hat))
         go_ret
         exact ⟨_, by first | rfl | (simp [errW_none, errW_some] <;> rfl) | (simp [*, errW_none, errW_some] <;> rfl), by (with_reducible repeat (first | apply Kd.S_alloc | apply Kd.S_drewN | apply Kd.S_drew)); exact Kd.S_mono HO1004.out (fun _ hk => trivial), by repeat (first | (with_reducible first | exact HB.out | apply ba_ | apply bn_ | apply bd_ | refine below_set ?_ GE976.out) | exact HB.out)⟩
        rw [if_neg c16] at H
        exact absurd H (by simp)
       rw [if_neg c12] at H
       exact absurd H (by simp)
      rw [if_neg c9] at H
      exact absurd H (by simp)
     replace c7 := Bool.eq_false_iff.mpr c7
     subst c7
     rw [if_neg (show ¬ (false = true) by decide)] at H
     have H' := Aside0.mk H
     clear H
     try go_wp2
     have n0_ := Aside0.mk (blk_drew BK976.out)
     have n1_ := Aside0.mk (bd_ HB.out)
     clear BK976 HB
     have BK976 := n0_
     have HB := n1_
     clear n0_ n1_
     have p977 : 0 ≤ (x5_1 : Int) := of_decide_eq_true (by with_reducible assumption)
     have q977 : x5_1 < (l0.length : Int) := of_decide_eq_true (by with_reducible assumption)
     obtain ⟨ad977, A977_0, c977_0, e977, hx977_0, hx977_1, hx977_2, hx977_3, hl977_0, hi977_0⟩ := at_T44 HR0.out x5_1 p977 q977
     have hw977_3 := hx977_3
     have hw977_2 := hx977_2
     have hw977_1 := hx977_1
     have hw977_0 := hx977_0
     cases e977
     replace hx977_0 := cl_ HB.out hx977_0
     replace hx977_1 := cl_ HB.out hx977_1
     replace hx977_2 := cl_ HB.out hx977_2
     replace hx977_3 := cl_ HB.out hx977_3
     have HR977_0 := Aside0.mk hi977_0
     have HC977_0 := Aside0.mk hl977_0
     clear hi977_0 hl977_0
     replace p977 := eq_true p977
     replace q977 := eq_true q977
     refine start_ (n := 15) (S := fun w' => w'.cell? ⟨gb976, 0, none⟩ = some (.slice A1_0 l1_0.length c1_0) ∧ w'.cell? ⟨gb976, 1, none⟩ = some (.int .i64 a1_1) ∧ w'.cell? ⟨gb976, 2, none⟩ = some (.int .i64 a1_2) ∧ w'.cell? ⟨gb976, 3, none⟩ = some (.string a1_3) ∧ w'.cell? (ad977.add ((x5_1).toNat * 4)) = some (.slice A977_0 ((rd_T44 l0 x5_1).f0).length c977_0) ∧ w'.cell? ⟨(ad977.add ((x5_1).toNat * 4)).block, (ad977.add ((x5_1).toNat * 4)).off + 1, none⟩ = some (.int .i64 ((rd_T44 l0 x5_1).f1)) ∧ w'.cell? ⟨(ad977.add ((x5_1).toNat * 4)).block, (ad977.add ((x5_1).toNat * 4)).off + 2, none⟩ = some (.int .i64 ((rd_T44 l0 x5_1).f2)) ∧ w'.cell? ⟨(ad977.add ((x5_1).toNat * 4)).block, (ad977.add ((x5_1).toNat * 4)).off + 3, none⟩ = some (.string ((rd_T44 l0 x5_1).f3))) (ds := []) #[f_,f_,f_,f_,f_,f_,f_,f_,f_,f_,f_,f_,f_,f_,f_] (by kernel_rfl) rfl rfl ⟨bx_ BK976.out 0, bx_ BK976.out 1, bx_ BK976.out 2, bx_ BK976.out 3, ((HB.out.cell (World.block_lt_of_cell? w _ hw977_0)).trans hw977_0), ((HB.out.cell (World.block_lt_of_cell? w _ hw977_1)).trans hw977_1), ((HB.out.cell (World.block_lt_of_cell? w _ hw977_2)).trans hw977_2), ((HB.out.cell (World.block_lt_of_cell? w _ hw977_3)).trans hw977_3)⟩ (fun hHeld => ?_); refine with_tabW impl_inserted.tab2 impl_inserted.bits2 (fun HT_ HW_ => ?_)
     generalize wr.drew = w29 at BK976 HB HR977_0 hx977_0 hx977_1 hx977_2 hx977_3 hHeld ⊢
     refine pu_ 0 7 ?_ (b_ 1 14) rfl rfl HT_.out ?_ ?_ ?_ ?_; rotate_left; intro w'; go_simp; with_reducible rfl; rotate_left; simp only [fr_]; rfl
     refine pu_ 1 8 ?_ (b_ 2 13) rfl rfl HT_.out ?_ ?_ ?_ ?_; rotate_left; intro w'; go_simp; with_reducible rfl; rotate_left; simp only [fr_]; rfl
     refine pu_ 2 9 ?_ (b_ 3 12) rfl rfl HT_.out ?_ ?_ ?_ ?_; rotate_left; intro w'; go_simp; with_reducible rfl; rotate_left; simp only [fr_]; rfl
     refine pu_ 3 10 ?_ (b_ 4 11) rfl rfl HT_.out ?_ ?_ ?_ ?_; rotate_left; intro w'; go_simp; with_reducible rfl; rotate_left; simp only [fr_]; rfl
     refine pu_ 4 11 ?_ (b_ 5 10) rfl rfl HT_.out ?_ ?_ ?_ ?_; rotate_left; intro w'; go_simp; with_reducible rfl; rotate_left; simp only [fr_]; rfl
     refine pu_ 5 12 ?_ (b_ 6 9) rfl rfl HT_.out ?_ ?_ ?_ ?_; rotate_left; intro w'; go_simp; with_reducible rfl; rotate_left; simp only [fr_]; rfl
     refine pu_ 7 14 ?_ #[t_,t_,t_,t_,t_,t_,f_,t_,f_,f_,f_,f_,f_,f_,f_] rfl rfl HT_.out ?_ ?_ ?_ ?_; rotate_left; intro w'; go_simp; with_reducible rfl; rotate_left; simp only [fr_]; rfl
     refine pu_ 8 15 ?_ #[t_,t_,t_,t_,t_,t_,f_,t_,t_,f_,f_,f_,f_,f_,f_] rfl rfl HT_.out ?_ ?_ ?_ ?_; rotate_left; intro w'; go_simp; with_reducible rfl; rotate_left; simp only [fr_]; rfl
     refine pu_ 9 16 ?_ #[t_,t_,t_,t_,t_,t_,f_,t_,t_,t_,f_,f_,f_,f_,f_] rfl rfl HT_.out ?_ ?_ ?_ ?_; rotate_left; intro w'; go_simp; with_reducible rfl; rotate_left; simp only [fr_]; rfl
     refine pu_ 10 17 ?_ #[t_,t_,t_,t_,t_,t_,f_,t_,t_,t_,t_,f_,f_,f_,f_] rfl rfl HT_.out ?_ ?_ ?_ ?_; rotate_left; intro w'; go_simp; with_reducible rfl; rotate_left; simp only [fr_]; rfl
     refine take_ (i := 6) (N := some 13) (v := ?_) (a' := ?_) #[t_,t_,t_,t_,t_,t_,t_,t_,t_,t_,t_,f_,f_,f_,f_] rfl rfl (take_ofW HT_.out HW_.out (by kernel_rfl)) (fun _ _ _ h => h) (Or.inl ⟨by rfl, ?_⟩) hHeld ?_ ?_
     rotate_left
     ·
      rintro w' ⟨s0, s1, s2, s3, s4, s5, s6, s7⟩
      go_simp
      with_reducible rfl
     rotate_left
     ·
      simp only [fr_]
      rfl
     refine take_ (i := 11) (N := some 18) (v := ?_) (a' := ?_) #[t_,t_,t_,t_,t_,t_,t_,t_,t_,t_,t_,t_,f_,f_,f_] rfl rfl (take_ofW HT_.out HW_.out (by kernel_rfl)) (fun _ _ _ h => h) (Or.inl ⟨by rfl, ?_⟩) hHeld ?_ ?_
     rotate_left
     ·
      rintro w' ⟨s0, s1, s2, s3, s4, s5, s6, s7⟩
      go_simp
      with_reducible rfl
     rotate_left
     ·
      simp only [fr_]
      rfl
     refine one_ (i := 12) (N := some 19) #[t_,t_,t_,t_,t_,t_,t_,t_,t_,t_,t_,t_,t_,f_,f_] rfl rfl (one_of HT_.out (by kernel_rfl)) (by decide) (fun K hK => ?_)
     refine goes_ Try.func153 (by kernel_rfl) rfl #[.slice A1_0 l1_0.length c1_0, .slice A977_0 ((rd_T44 l0 x5_1).f0).length c977_0] (by rfl) rfl rfl (by (try simp only [mp_]); first | done | rfl | (simp only [List.length_drop, List.length_take]; rfl)) ?_
     with_reducible refine (impl_SetLess.calls k1 _ _ l1_0 _ _ ((rd_T44 l0 x5_1).f0) false _ ?side1 ?side2 ?side3 ?side4 A6.out).mono ?_
     (case side1 => repeat (first | exact (Kd.C_below HR1_0.out HB.out) | (with_reducible first | refine ca_ ?_ _ | refine cn_ ?_ _ | refine cd_ ?_)))
     (case side2 => exact HC1_0.out)
     (case side3 => repeat (first | exact (Kd.C_below HR977_0.out HB.out) | (with_reducible first | refine ca_ ?_ _ | refine cn_ ?_ _ | refine cd_ ?_)))
     (case side4 => exact HC977_0.out)
     rintro e w' ⟨rfl, ⟨nd, rfl⟩⟩
     refine ⟨_, rfl, ?_⟩
     refine hK.out _ _ ⟨bx_ BK976.out 0, bx_ BK976.out 1, bx_ BK976.out 2, bx_ BK976.out 3, ((HB.out.cell (World.block_lt_of_cell? w _ hw977_0)).trans hw977_0), ((HB.out.cell (World.block_lt_of_cell? w _ hw977_1)).trans hw977_1), ((HB.out.cell (World.block_lt_of_cell? w _ hw977_2)).trans hw977_2), ((HB.out.cell (World.block_lt_of_cell? w _ hw977_3)).trans hw977_3)⟩ (fun hHeld => ?_)
     clear hK K
     refine norm_ (a' := ?_) ?_ ?_
     rotate_left
     ·
      show Act.put _ (some 19) _ = _
      simp only [fr_]
      rfl
     refine pu_ 13 20 ?_ (b_ 14 1) rfl rfl HT_.out ?_ ?_ ?_ ?_; rotate_left; intro w'; go_simp; with_reducible rfl; rotate_left; simp only [fr_]; rfl
     refine pu_ 14 21 ?_ (b_ 15 0) rfl rfl HT_.out ?_ ?_ ?_ ?_; rotate_left; intro w'; go_simp; with_reducible rfl; rotate_left; simp only [fr_]; rfl
     refine done_ (done_of HT_.out (by kernel_rfl)) ?_
     try go_wp2
     go_roundg k1
     case measure => have := HK1.out; omega
     case rel => exact ⟨(wrap64 (x5_1 + 1)), (by first | rfl | (simp; done) | (simp [*]; done)), H', ⟨by have := HK1.out; omega⟩, ⟨by (with_reducible repeat (first | refine kn_ ?_ _ | refine kd_ ?_ | refine ka_ ?_ _)); exact BK976.out⟩, ⟨by repeat (first | (with_reducible first | exact HB.out | apply ba_ | apply bn_ | apply bd_ | refine below_set ?_ GE976.out) | exact HB.out)⟩⟩
    rw [if_neg c5] at H
    exact absurd H (by simp)
   rw [if_neg c4] at H
   have c4b0 : decide (x5_1 < (l0.length : Int)) = false := decide_eq_false c4
   clear c4
   by_cases c30 : 0 ≤ x5_1
   ·
    rw [if_pos c30] at H
    have c30b0 := eq_true c30
    have c30b1 := decide_eq_true c30
    clear c30
    by_cases c31 : x5_1 ≤ (l0.length : Int)
    ·
     rw [if_pos c31] at H
     have c31b0 := eq_true c31
     have c31b1 := decide_eq_true c31
     clear c31
     obtain ⟨y1005, hy1005⟩ : ∃ y_ : List (S44), y_ = (l0.take (x5_1 : Int).toNat) := ⟨_, rfl⟩
     replace H : ((impl_copyAlarms.f k1 y1005).bind fun t1009 => ((impl_copyAlarm.f l1_0 a1_1 a1_2 a1_3).bind fun bt1012 => (if t1009.length < 2513169434916 then ((some (t1009 ++ [(⟨bt1012.1, bt1012.2.1, bt1012.2.2.1, bt1012.2.2.2⟩ : S44)] : List (S44))).bind fun y1018 => ((impl_copyAlarms.f k1 (l0.drop (x5_1 : Int).toNat)).bind fun t1025 => (if y1018.length + t1025.length < 2513169434916 then (some (y1018 ++ t1025)) else (none)))) else (none)))) = some r := by first | (rw [hy1005]; with_reducible exact H) | (have H2_ := (Option.bind_some _ _).symm.trans H; rw [hy1005]; with_reducible exact H2_) | (have H2_ := (Option.bind_some _ _).symm.trans H; with_reducible exact H2_) | with_reducible exact H | (rw [hy1005]; exact H) | exact H
     have Ny1005 := Aside0.mk hy1005
     clear hy1005
     replace H := Option.bind_eq_some_iff.mp H
     obtain ⟨t1009, A320, H⟩ := H
     have A32 := Aside0.mk A320
     clear A320
     replace H := Option.bind_eq_some_iff.mp H
     obtain ⟨⟨t1012, t1015, t1016, t1017⟩, A330, H⟩ := H
     have A33 := Aside0.mk A330
     clear A330
     by_cases c34 : t1009.length < 2513169434916
     ·
      rw [if_pos c34] at H
      have LMc34 := Aside0.mk c34
      clear c34
      obtain ⟨y1018, hy1018⟩ : ∃ y_ : List (S44), y_ = (t1009 ++ [(⟨t1012, t1015, t1016, t1017⟩ : S44)]) := ⟨_, rfl⟩
      replace H : ((impl_copyAlarms.f k1 (l0.drop (x5_1 : Int).toNat)).bind fun t1025 => (if y1018.length + t1025.length < 2513169434916 then (some (y1018 ++ t1025)) else (none))) = some r := by first | (rw [hy1018]; with_reducible exact H) | (have H2_ := (Option.bind_some _ _).symm.trans H; rw [hy1018]; with_reducible exact H2_) | (have H2_ := (Option.bind_some _ _).symm.trans H; with_reducible exact H2_) | with_reducible exact H | (rw [hy1018]; exact H) | exact H
      have Ny1018 := Aside0.mk hy1018
      clear hy1018
      have c35b0 := eq_true (of_decide_eq_true (by with_reducible assumption) : 0 ≤ x5_1)
      have c36b0 := eq_true (of_decide_eq_true (by with_reducible assumption) : x5_1 ≤ (l0.length : Int))
      obtain ⟨y1021, hy1021⟩ : ∃ y_ : List (S44), y_ = (l0.drop (x5_1 : Int).toNat) := ⟨_, rfl⟩
      replace H : ((impl_copyAlarms.f k1 y1021).bind fun t1025 => (if y1018.length + t1025.length < 2513169434916 then (some (y1018 ++ t1025)) else (none))) = some r := by first | (rw [hy1021]; with_reducible exact H) | (have H2_ := (Option.bind_some _ _).symm.trans H; rw [hy1021]; with_reducible exact H2_) | (have H2_ := (Option.bind_some _ _).symm.trans H; with_reducible exact H2_) | with_reducible exact H | (rw [hy1021]; exact H) | exact H
      have Ny1021 := Aside0.mk hy1021
      clear hy1021
      replace H := Option.bind_eq_some_iff.mp H
      obtain ⟨t1025, A370, H⟩ := H
      have A37 := Aside0.mk A370
      clear A370
      by_cases c38 : y1018.length + t1025.length < 2513169434916
      ·
       rw [if_pos c38] at H
       have LMc38 := Aside0.mk c38
       clear c38
       obtain ⟨y1028, hy1028⟩ : ∃ y_ : List (S44), y_ = (y1018 ++ t1025) := ⟨_, rfl⟩
       replace H : (some y1028) = some r := by first | (rw [hy1028]; with_reducible exact H) | (have H2_ := (Option.bind_some _ _).symm.trans H; rw [hy1028]; with_reducible exact H2_) | (have H2_ := (Option.bind_some _ _).symm.trans H; with_reducible exact H2_) | with_reducible exact H | (rw [hy1028]; exact H) | exact H
       have Ny1028 := Aside0.mk hy1028
       clear hy1028
       obtain rfl := Option.some.inj H
       try go_wp2
       have n0_ := Aside0.mk (blk_drew BK976.out)
       have n1_ := Aside0.mk (bd_ HB.out)
       clear BK976 HB
       have BK976 := n0_
       have HB := n1_
       clear n0_ n1_
       refine start_ (n := 15) (S := fun w' => True) (ds := []) #[f_,f_,f_,f_,f_,f_,f_,f_,f_,f_,f_,f_,f_,f_,f_] (by kernel_rfl) rfl rfl trivial (fun hHeld => ?_); refine with_tabW impl_inserted.tab2 impl_inserted.bits2 (fun HT_ HW_ => ?_)
       generalize wr.drew = w39 at BK976 HB hHeld ⊢
       refine pu_ 0 7 ?_ (b_ 1 14) rfl rfl HT_.out ?_ ?_ ?_ ?_; rotate_left; intro w'; go_simp; with_reducible rfl; rotate_left; simp only [fr_]; rfl
       refine pu_ 1 8 ?_ (b_ 2 13) rfl rfl HT_.out ?_ ?_ ?_ ?_; rotate_left; intro w'; go_simp; with_reducible rfl; rotate_left; simp only [fr_]; rfl
       refine pu_ 2 9 ?_ (b_ 3 12) rfl rfl HT_.out ?_ ?_ ?_ ?_; rotate_left; intro w'; go_simp; with_reducible rfl; rotate_left; simp only [fr_]; rfl
       refine pu_ 3 10 ?_ (b_ 4 11) rfl rfl HT_.out ?_ ?_ ?_ ?_; rotate_left; intro w'; go_simp; with_reducible rfl; rotate_left; simp only [fr_]; rfl
       refine pu_ 4 11 ?_ (b_ 5 10) rfl rfl HT_.out ?_ ?_ ?_ ?_; rotate_left; intro w'; go_simp; with_reducible rfl; rotate_left; simp only [fr_]; rfl
       refine pv_ 5 12 ?_ (b_ 6 9) rfl rfl HT_.out ?_ ?_; rotate_left; simp only [fr_]; rfl
       refine pv_ 6 13 ?_ (b_ 7 8) rfl rfl HT_.out ?_ ?_; rotate_left; simp only [fr_]; rfl
       refine pv_ 7 14 ?_ (b_ 8 7) rfl rfl HT_.out ?_ ?_; rotate_left; simp only [fr_]; rfl
       refine pv_ 8 15 ?_ (b_ 9 6) rfl rfl HT_.out ?_ ?_; rotate_left; simp only [fr_]; rfl
       refine pv_ 9 16 ?_ (b_ 10 5) rfl rfl HT_.out ?_ ?_; rotate_left; simp only [fr_]; rfl
       refine pv_ 10 17 ?_ (b_ 11 4) rfl rfl HT_.out ?_ ?_; rotate_left; simp only [fr_]; rfl
       refine pv_ 11 18 ?_ (b_ 12 3) rfl rfl HT_.out ?_ ?_; rotate_left; simp only [fr_]; rfl
       refine pv_ 12 19 ?_ (b_ 13 2) rfl rfl HT_.out ?_ ?_; rotate_left; simp only [fr_]; rfl
       refine pv_ 13 20 ?_ (b_ 14 1) rfl rfl HT_.out ?_ ?_; rotate_left; simp only [fr_]; rfl
       refine pu_ 14 21 ?_ (b_ 15 0) rfl rfl HT_.out ?_ ?_ ?_ ?_; rotate_left; intro w'; go_simp; with_reducible rfl; rotate_left; simp only [fr_]; rfl
       refine done_ (done_of HT_.out (by kernel_rfl)) ?_
       try go_wp2
       have n0_ := Aside0.mk (blk_drew BK976.out)
       have n1_ := Aside0.mk (bd_ HB.out)
       clear BK976 HB
       have BK976 := n0_
       have HB := n1_
       clear n0_ n1_
       have q41 : (x5_1 : Int) ≤ ((l0.length : Int) : Int) := of_decide_eq_true (by with_reducible assumption)
       obtain ⟨i041, hi041, _, hsz41, _⟩ := info_parts info44
       have hroom41 : l0.length ≤ c0 := HC0.out
       have hC41 : Kd.C k44 _ A0 l0.length l0 := HR0.out
       have hcut41 := cut_to (P := Try.prog) 37 44 .i64 Try.underlying37 hi041 A0 l0.length c0 x5_1 (of_decide_eq_true (by with_reducible assumption)) q41 hroom41
       have hr41 := Kd.C_take (m := (x5_1 : Int).toNat) hC41 (by omega)
       have hy41 : y1005.length = (x5_1 : Int).toNat := (by rw [Ny1005.out, List.length_take]; omega)
       rw [← Ny1005.out] at hr41
       rw [← hy41] at hcut41
       have HR1008 := Aside0.mk hr41
       have HC1008 := Aside0.mk (show y1005.length ≤ c0 from by omega)
       clear hr41 hC41 hroom41 hi041 hsz41
       have KY41 := Aside0.mk hy41
       clear hy41
       replace q41 := eq_true q41
       refine start_ (n := 9) (S := fun w' => w'.cell? ⟨gb976, 0, none⟩ = some (.slice A1_0 l1_0.length c1_0) ∧ w'.cell? ⟨gb976, 1, none⟩ = some (.int .i64 a1_1) ∧ w'.cell? ⟨gb976, 2, none⟩ = some (.int .i64 a1_2) ∧ w'.cell? ⟨gb976, 3, none⟩ = some (.string a1_3)) (ds := []) #[f_,f_,f_,f_,f_,f_,f_,f_,f_] (by kernel_rfl) rfl rfl ⟨bx_ BK976.out 0, bx_ BK976.out 1, bx_ BK976.out 2, bx_ BK976.out 3⟩ (fun hHeld => ?_); refine with_tabW impl_inserted.tab4 impl_inserted.bits4 (fun HT_ HW_ => ?_)
       generalize w39.drew = w40 at BK976 HB HR1008 hHeld ⊢
       refine pu_ 0 24 ?_ (b_ 1 8) rfl rfl HT_.out ?_ ?_ ?_ ?_; rotate_left; intro w'; go_simp; with_reducible rfl; rotate_left; simp only [fr_]; rfl
       refine pu_ 1 25 ?_ (b_ 2 7) rfl rfl HT_.out ?_ ?_ ?_ ?_; rotate_left; intro w'; go_simp; with_reducible rfl; rotate_left; simp only [fr_]; rfl
       refine pu_ 2 26 ?_ (b_ 3 6) rfl rfl HT_.out ?_ ?_ ?_ ?_; rotate_left; intro w'; go_simp; with_reducible rfl; rotate_left; simp only [fr_]; rfl
       refine take_ (i := 4) (N := some 28) (v := ?_) (a' := ?_) #[t_,t_,t_,f_,t_,f_,f_,f_,f_] rfl rfl (take_ofW HT_.out HW_.out (by kernel_rfl)) (fun _ _ _ h => h) (Or.inl ⟨by rfl, ?_⟩) hHeld ?_ ?_
       rotate_left
       ·
        rintro w' ⟨s0, s1, s2, s3⟩
        go_simp
        with_reducible rfl
       rotate_left
       ·
        simp only [fr_]
        rfl
       refine one_ (i := 3) (N := some 27) #[t_,t_,t_,t_,t_,f_,f_,f_,f_] rfl rfl (one_of HT_.out (by kernel_rfl)) (by decide) (fun K hK => ?_)
       refine goes_ Try.func101 (by kernel_rfl) rfl #[.slice A0 y1005.length c0] (by rfl) rfl rfl (by (try simp only [mp_]); first | done | rfl | (simp only [List.length_drop, List.length_take]; rfl)) ?_
       with_reducible refine (impl_copyAlarms.calls k1 _ _ y1005 t1009 _ ?side1 ?side2 A32.out).mono ?_
       (case side1 => repeat (first | exact (Kd.C_below HR1008.out HB.out) | (with_reducible first | refine ca_ ?_ _ | refine cn_ ?_ _ | refine cd_ ?_)))
       (case side2 => exact HC1008.out)
       rintro e w42 ⟨v1010, rfl, ho0, hb⟩
       refine ⟨_, rfl, ?_⟩
       obtain ⟨gbz1010, hz1010⟩ := Kd.S_name ho0
       have n0_ := Aside0.mk (Kd.S_lower (Kd.S_newB (Kd.S_gez hz1010 ho0) (g := gb976) (o := .cells #[.slice A1_0 l1_0.length c1_0, .int .i64 a1_1, .int .i64 a1_2, .string a1_3] 44 (0, 0)) (pb_ BK976.out)) (below_size (by repeat (first | (with_reducible first | exact HB.out | apply ba_ | apply bn_ | apply bd_ | refine below_set ?_ GE976.out) | exact HB.out))))
       have n1_ := Aside0.mk (bb_ BK976.out hb)
       have n2_ := Aside0.mk (below_step (by repeat (first | (with_reducible first | exact HB.out | apply ba_ | apply bn_ | apply bd_ | refine below_set ?_ GE976.out) | exact HB.out)) hb)
       clear BK976 HB
       have HO1011 := n0_
       have BK976 := n1_
       have HB := n2_
       clear n0_ n1_ n2_
       (try clear hb)
       (try clear hb2)
       (try clear hk)
       (try clear hi)
       (try clear ho0)
       refine hK.out _ _ ⟨bx_ BK976.out 0, bx_ BK976.out 1, bx_ BK976.out 2, bx_ BK976.out 3⟩ (fun hHeld => ?_)
       clear hK K
       refine norm_ (a' := ?_) ?_ ?_
       rotate_left
       ·
        show Act.put _ (some 27) _ = _
        simp only [fr_]
        rfl
       refine one_ (i := 5) (N := some 29) #[t_,t_,t_,t_,t_,t_,f_,f_,f_] rfl rfl (one_of HT_.out (by kernel_rfl)) (by decide) (fun K hK => ?_)
       refine goes_ Try.func97 (by kernel_rfl) rfl #[.agg #[.slice A1_0 l1_0.length c1_0, .int .i64 a1_1, .int .i64 a1_2, .string a1_3]] (by rfl) rfl rfl (by (try simp only [mp_]); first | done | rfl | (simp only [List.length_drop, List.length_take]; rfl)) ?_
       with_reducible refine (impl_copyAlarm.calls _ _ l1_0 a1_1 a1_2 a1_3 t1012 t1015 t1016 t1017 _ ?side1 ?side2 A33.out).mono ?_
       (case side1 => repeat (first | exact (Kd.C_below HR1_0.out HB.out) | (with_reducible first | refine ca_ ?_ _ | refine cn_ ?_ _ | refine cd_ ?_)))
       (case side2 => exact HC1_0.out)
       rintro e w43 ⟨v1013, rfl, ho0, hb⟩
       refine ⟨_, rfl, ?_⟩
       obtain ⟨gbz1013, hz1013⟩ := Kd.R_name ho0
       have n0_ := Aside0.mk (Kd.S_below (Kd.S_ltz hz1013 (sp_ HO1011.out)) hb)
       have n1_ := Aside0.mk (Kd.R_lower (Kd.R_gez hz1013 ho0) (below_size (by repeat (first | (with_reducible first | exact HB.out | apply ba_ | apply bn_ | apply bd_ | refine below_set ?_ GE976.out) | exact HB.out))))
       have n2_ := Aside0.mk (bb_ BK976.out hb)
       have n3_ := Aside0.mk (below_step (by repeat (first | (with_reducible first | exact HB.out | apply ba_ | apply bn_ | apply bd_ | refine below_set ?_ GE976.out) | exact HB.out)) hb)
       clear HO1011 BK976 HB
       have HO1011 := n0_
       have HO1014 := n1_
       have BK976 := n2_
       have HB := n3_
       clear n0_ n1_ n2_ n3_
       (try clear hb)
       (try clear hb2)
       (try clear hk)
       (try clear hi)
       (try clear ho0)
       obtain ⟨Ao45, co45, eo45⟩ := Kd.R_slice HO1014.out
       (first | subst eo45 | (injection eo45 with f1_ f2_ f3_; have f4_ := f1_.symm; have f5_ := f3_.symm; clear f1_ f2_ f3_; subst f4_; subst f5_))
       refine hK.out _ _ ⟨bx_ BK976.out 0, bx_ BK976.out 1, bx_ BK976.out 2, bx_ BK976.out 3⟩ (fun hHeld => ?_)
       clear hK K
       refine norm_ (a' := ?_) ?_ ?_
       rotate_left
       ·
        show Act.put _ (some 29) _ = _
        simp only [fr_]
        rfl
       refine one_ (i := 6) (N := some 30) #[t_,t_,t_,t_,t_,t_,t_,f_,f_] rfl rfl (one_of HT_.out (by kernel_rfl)) (by decide) (fun K hK => ?_)
       refine value_ (w1 := ?_) (v := ?_) (by rfl) rfl ?_ ?_
       rotate_left 2
       ·
        go_simp
        constructor
        ·
         rfl
        rfl
       refine hK.out _ _ ⟨(blk_cell (blk_alloc BK976.out _) 0).trans rfl, (blk_cell (blk_alloc BK976.out _) 1).trans rfl, (blk_cell (blk_alloc BK976.out _) 2).trans rfl, (blk_cell (blk_alloc BK976.out _) 3).trans rfl⟩ (fun hHeld => ?_)
       clear hK K
       refine norm_ (a' := ?_) ?_ ?_
       rotate_left
       ·
        show Act.put _ (some 30) _ = _
        simp only [fr_]
        rfl
       refine one_ (i := 7) (N := some 31) #[t_,t_,t_,t_,t_,t_,t_,t_,f_] rfl rfl (one_of HT_.out (by kernel_rfl)) (by decide) (fun K hK => ?_)
       refine Kd.S_append_step k44 (w0 := w) w.heap.size (by rfl) (.tmp 27) (.tmp 30) 37 44 (.agg #[(.slice none 0 0), (.int .i64 0), (.int .i64 0), (.string ⟨#[]⟩)]) 56 rfl Try.underlying37 info44 rfl (by decide) (by omega) v1010 t1009 (⟨t1012, t1015, t1016, t1017⟩ : S44) [.slice Ao45 t1012.length co45, .int .i64 t1015, .int .i64 t1016, .string t1017] (fun k_ => k_ ≠ gb976) (fun k_ => some k_ = (.slice Ao45 t1012.length co45 : Value).ownBlock) rfl rfl ?aP (fun k_ hk_ => ((Kd.R_mono (ok' := fun k_ => ((fun k_ => k_ ≠ gb976)) k_ ∧ some k_ ≠ (v1010 : Value).ownBlock) (Kd.R_types (Kd.R_apart' (HO1014.out) (Kd.S_typed HO1011.out) (by decide)) BK976.out (by decide)) (fun k_ hk => ⟨hk.2, hk.1.2⟩))).1 k_ hk_.symm) ?aF ?aO ?aB ?aS ?aL ?_
       (case aP => exact k44_mkM _ _ _ (⟨t1012, t1015, t1016, t1017⟩ : S44) (Kd.R_mono (Kd.R_tight rfl (Kd.R_mono (ok' := fun k_ => ((fun k_ => k_ ≠ gb976)) k_ ∧ some k_ ≠ (v1010 : Value).ownBlock) (Kd.R_types (Kd.R_apart' (HO1014.out) (Kd.S_typed HO1011.out) (by decide)) BK976.out (by decide)) (fun k_ hk => ⟨hk.2, hk.1.2⟩))) (fun _ h_ => h_)))
       (case aB => exact (by repeat (first | (with_reducible first | exact HB.out | apply ba_ | apply bn_ | apply bd_ | refine below_set ?_ GE976.out) | exact HB.out)))
       (case aF => exact (fun k_ hk => Kd.freshB (g := gb976) (o := .cells #[.slice A1_0 l1_0.length c1_0, .int .i64 a1_1, .int .i64 a1_2, .string a1_3] 44 (0, 0)) (pb_ BK976.out) k_ hk))
       (case aO => exact (by (with_reducible repeat (first | apply Kd.S_alloc | apply Kd.S_drewN | apply Kd.S_drew)); exact Kd.S_mono HO1011.out (fun k_ hk => ⟨hk.1.2, fun e_ => (fun ez_ => Nat.lt_irrefl _ (Nat.lt_of_lt_of_le hk.2 (HO1014.out.1 _ ez_.symm).2)) e_⟩)))
       (case aS => exact (below_size (by repeat (first | (with_reducible first | exact HB.out | apply ba_ | apply bn_ | apply bd_ | refine below_set ?_ GE976.out) | exact HB.out))))
       (case aL => have := LMc34.out; omega)
       intro v1019 w44 ho hb hg hat
       rw [← Ny1018.out] at ho
       have n0_ := Aside0.mk (blk_grown (g := gb976) (o := .cells #[.slice A1_0 l1_0.length c1_0, .int .i64 a1_1, .int .i64 a1_2, .string a1_3] 44 (0, 0)) (pb_ BK976.out) hg (Kd.S_away HO1011.out (fun _ hk => hk.1.2)))
       have n1_ := Aside0.mk (hb)
       have n2_ := Aside0.mk (ho)
       clear BK976 HB HO1011 HO1014
       have BK976 := n0_
       have HB := n1_
       have HO1020 := n2_
       clear n0_ n1_ n2_ ho hb hg hat
       refine hK.out _ _ ⟨bx_ BK976.out 0, bx_ BK976.out 1, bx_ BK976.out 2, bx_ BK976.out 3⟩ (fun hHeld => ?_)
       clear hK K
       refine norm_ (a' := ?_) ?_ ?_
       rotate_left
       ·
        show Act.put _ (some 31) _ = _
        simp only [fr_]
        rfl
       refine pu_ 8 6 ?_ (b_ 9 0) rfl rfl HT_.out ?_ ?_ ?_ ?_; rotate_left; intro w'; go_simp; with_reducible rfl; rotate_left; simp only [fr_]; rfl
       refine done_ (done_of HT_.out (by kernel_rfl)) ?_
       have q46 : (x5_1 : Int) ≤ ((l0.length : Int) : Int) := of_decide_eq_true (by with_reducible assumption)
       obtain ⟨i046, hi046, _, hsz46, _⟩ := info_parts info44
       have hroom46 : l0.length ≤ c0 := HC0.out
       have hC46 : Kd.C k44 _ A0 l0.length l0 := HR0.out
       have q046 : (0 : Int) ≤ (x5_1 : Int) := of_decide_eq_true (by with_reducible assumption)
       have hcut46 := cut_from (P := Try.prog) 37 44 .i64 Try.underlying37 hi046 4 hsz46 A0 l0.length c0 x5_1 q046 q46
       have hr46 := Kd.C_drop (m := (x5_1 : Int).toNat) (c := c0) hC46 (by omega) hroom46
       obtain ⟨A46, hA46⟩ : ∃ A1, A1 = (if c0 = (x5_1 : Int).toNat then A0 else (A0 : Option Addr).map (·.add ((x5_1 : Int).toNat * 4))) := ⟨_, rfl⟩
       obtain ⟨c46, hc46⟩ : ∃ c1, c1 = c0 - (x5_1 : Int).toNat := ⟨_, rfl⟩
       have hy46 : y1021.length = l0.length - (x5_1 : Int).toNat := (by rw [Ny1021.out, List.length_drop] <;> omega)
       rw [show (l0).drop (x5_1 : Int).toNat = y1021 from Ny1021.out.symm] at hr46
       replace hr46 : Kd.C k44 _ A46 y1021.length y1021 := (by rw [hA46]; exact hr46)
       rw [← hy46, ← hA46, ← hc46] at hcut46
       have HR1024 := Aside0.mk hr46
       have HC1024 := Aside0.mk (show y1021.length ≤ c46 from by rw [hy46, hc46]; exact Nat.sub_le_sub_right hroom46 _)
       clear hr46 hC46 hroom46 hi046 hsz46 hc46
       have KY46 := Aside0.mk hy46
       have KA46 := Aside0.mk hA46
       clear hy46 hA46
       replace q46 := eq_true q46
       try go_wp2_with (first | ((with_reducible refine gate_callee (f := 101) rfl ?_); refine goesL_ (some 36) rfl rfl Try.func101 (by kernel_rfl) rfl #[.slice A46 y1021.length c46] rfl (by (try simp only [mp_]); first | done | rfl | (simp only [List.length_drop, List.length_take]; rfl)) ?_; (with_reducible refine (impl_copyAlarms.calls k1 _ _ y1021 t1025 _ ?side1 ?side2 A37.out).mono ?_); (case side1 => repeat (first | exact (Kd.C_below HR1024.out HB.out) | (with_reducible first | refine ca_ ?_ _ | refine cn_ ?_ _ | refine cd_ ?_))); (case side2 => exact HC1024.out); rintro e w47 ⟨v1026, rfl, ho0, hb⟩; refine ⟨_, rfl, ?_⟩; obtain ⟨gbz1026, hz1026⟩ := Kd.S_name ho0; have n0_ := Aside0.mk (Kd.S_below (Kd.S_ltz hz1026 (sp_ HO1020.out)) hb); have n1_ := Aside0.mk (Kd.S_lower (Kd.S_newB (Kd.S_gez hz1026 ho0) (g := gb976) (o := .cells #[.slice A1_0 l1_0.length c1_0, .int .i64 a1_1, .int .i64 a1_2, .string a1_3] 44 (0, 0)) (pb_ BK976.out)) (below_size (by repeat (first | (with_reducible first | exact HB.out | apply ba_ | apply bn_ | apply bd_ | refine below_set ?_ GE976.out) | exact HB.out)))); have n2_ := Aside0.mk (bb_ BK976.out hb); have n3_ := Aside0.mk (below_step (by repeat (first | (with_reducible first | exact HB.out | apply ba_ | apply bn_ | apply bd_ | refine below_set ?_ GE976.out) | exact HB.out)) hb); clear HO1020 BK976 HB; have HO1020 := n0_; have HO1027 := n1_; have BK976 := n2_; have HB := n3_; clear n0_ n1_ n2_ n3_; (try clear hb); (try clear hb2); (try clear hk); (try clear hi); (try clear ho0); obtain ⟨Ao49, co49, eo49⟩ := Kd.S_slice HO1027.out; subst eo49; obtain ⟨PXP50, hPXP50, hPlP50⟩ := Kd.S_fp ((Kd.S_mono HO1027.out (fun k_ hk => (⟨hk, fun ez_ => Nat.lt_irrefl _ (Nat.lt_of_lt_of_le ((Kd.S_R HO1020.out).1 _ ez_.symm).2 hk.1.2)⟩ : _ ∧ some k_ ≠ (v1019 : Value).ownBlock))))) | ((with_reducible refine gate_builtin (b := .append) (xs := #[.tmp 32, .tmp 36]) rfl ?_); at_builtin; refine Kd.S_append_rows k44 (w0 := w) w.heap.size rfl (.tmp 32) (.tmp 36) 37 44 (.agg #[(.slice none 0 0), (.int .i64 0), (.int .i64 0), (.string ⟨#[]⟩)]) 56 rfl Try.underlying37 info44 rfl (by decide) (by omega) v1019 y1018 t1025 _ _ _ (fun k_ => k_ ≠ gb976) PXP50 rfl rfl ?aR (fun k_ hk_ => ⟨(hPlP50 k_ hk_).1.1.2, (hPlP50 k_ hk_).1.2⟩) ?aF ?aO ?aB ?aS ?aL ?_; (case aR => exact hPXP50); (case aB => exact (by repeat (first | (with_reducible first | exact HB.out | apply ba_ | apply bn_ | apply bd_ | refine below_set ?_ GE976.out) | exact HB.out))); (case aF => exact (fun k_ hk => Kd.freshB (g := gb976) (o := .cells #[.slice A1_0 l1_0.length c1_0, .int .i64 a1_1, .int .i64 a1_2, .string a1_3] 44 (0, 0)) (pb_ BK976.out) k_ hk)); (case aO => exact (by (with_reducible repeat (first | apply Kd.S_alloc | apply Kd.S_drewN | apply Kd.S_drew)); exact Kd.S_mono HO1020.out (fun k_ hk => ⟨hk.1, fun e_ => (fun ez_ => Nat.lt_irrefl _ (Nat.lt_of_lt_of_le hk.2 (hPlP50 _ ez_).1.1.1.2)) e_⟩))); (case aS => exact (below_size (by repeat (first | (with_reducible first | exact HB.out | apply ba_ | apply bn_ | apply bd_ | refine below_set ?_ GE976.out) | exact HB.out)))); (case aL => have := LMc38.out; omega); intro v1029 w48 ho hb hg hat; rw [← Ny1028.out] at ho; have n0_ := Aside0.mk (blk_grown (g := gb976) (o := .cells #[.slice A1_0 l1_0.length c1_0, .int .i64 a1_1, .int .i64 a1_2, .string a1_3] 44 (0, 0)) (pb_ BK976.out) hg (Kd.S_away HO1020.out (fun _ hk => hk.1))); have n1_ := Aside0.mk (hb); have n2_ := Aside0.mk (ho); clear BK976 HB HO1020 HO1027; have BK976 := n0_; have HB := n1_; have HO1030 := n2_; clear n0_ n1_ n2_; clear ho hb hg hat))
       go_ret
       exact ⟨_, by first | rfl | (simp [errW_none, errW_some] <;> rfl) | (simp [*, errW_none, errW_some] <;> rfl), by (with_reducible repeat (first | apply Kd.S_alloc | apply Kd.S_drewN | apply Kd.S_drew)); exact Kd.S_mono HO1030.out (fun _ hk => trivial), by repeat (first | (with_reducible first | exact HB.out | apply ba_ | apply bn_ | apply bd_ | refine below_set ?_ GE976.out) | exact HB.out)⟩
      rw [if_neg c38] at H
      exact absurd H (by simp)
     rw [if_neg c34] at H
     exact absurd H (by simp)
    rw [if_neg c31] at H
    exact absurd H (by simp)
   rw [if_neg c30] at H
   exact absurd H (by simp)
def impl_JoinIn.f (k : Nat) (a0_0 : Int) (l0_1 : List (S164)) (a0_2 : Int) (a0_3 : Int) (l0_4 : List (S44)) (l1_0 : List (S164)) (a1_1 : Int) (a1_2 : Int) (a1_3 : ByteArray) : Option (Int × (List (S164)) × Int × Int × (List (S44))) := (impl_copyGroup.f k a0_0 l0_1 a0_2 a0_3 l0_4).bind fun bt1034 => ((impl_labelsAt.f k l0_4 l1_0).bind fun t1044 => (if t1044 ≥ 0 then ((impl_copyAlarm.f l1_0 a1_1 a1_2 a1_3).bind fun bt1045 => (if 0 ≤ t1044 then (if t1044 < (bt1034.2.2.2.2.length : Int) then (some (bt1034.1, bt1034.2.1, bt1034.2.2.1, bt1034.2.2.2.1, (bt1034.2.2.2.2.set (t1044 : Int).toNat (⟨bt1045.1, bt1045.2.1, bt1045.2.2.1, bt1045.2.2.2⟩ : S44)))) else (none)) else (none))) else ((impl_inserted.f k l0_4 l1_0 a1_1 a1_2 a1_3).bind fun t1052 => (some (bt1034.1, bt1034.2.1, bt1034.2.2.1, bt1034.2.2.2.1, t1052)))))
theorem impl_JoinIn.mono : ∀ a0 a1 a2 a3 a4 a5 a6 a7 a8 k, LeO (impl_JoinIn.f k a0 a1 a2 a3 a4 a5 a6 a7 a8) (impl_JoinIn.f (k + 1) a0 a1 a2 a3 a4 a5 a6 a7 a8) := by
 intro a0 a1 a2 a3 a4 a5 a6 a7 a8 k
 unfold impl_JoinIn.f
 repeat' first
   | (with_reducible exact impl_copyGroup.mono _ _ _ _ _ _)
   | (with_reducible exact impl_inserted.mono _ _ _ _ _ _)
   | (with_reducible exact impl_labelsAt.mono _ _ _)
   | (with_reducible exact LeO.refl _)
   | (with_reducible exact LeO.none _)
   | (with_reducible refine LeO.ite ?_ ?_)
   | (with_reducible refine LeO.bind ?_ (fun _ => ?_))
   | exact impl_copyGroup.mono _ _ _ _ _ _
   | exact impl_inserted.mono _ _ _ _ _ _
   | exact impl_labelsAt.mono _ _ _
theorem impl_JoinIn.calls (k : Nat) (a0_0 : Int) (A0_1 : Option Addr) (c0_1 : Nat) (l0_1 : List (S164)) (a0_2 : Int) (a0_3 : Int) (A0_4 : Option Addr) (c0_4 : Nat) (l0_4 : List (S44)) (A1_0 : Option Addr) (c1_0 : Nat) (l1_0 : List (S164)) (a1_1 : Int) (a1_2 : Int) (a1_3 : ByteArray) (r1 : Int) (r2 : List (S164)) (r3 : Int) (r4 : Int) (r5 : List (S44)) (w : World) (hr0_1 : Kd.C k164 w A0_1 l0_1.length l0_1) (hc0_1 : l0_1.length ≤ c0_1) (hr0_4 : Kd.C k44 w A0_4 l0_4.length l0_4) (hc0_4 : l0_4.length ≤ c0_4) (hr1_0 : Kd.C k164 w A1_0 l1_0.length l1_0) (hc1_0 : l1_0.length ≤ c1_0) (h : impl_JoinIn.f k a0_0 l0_1 a0_2 a0_3 l0_4 l1_0 a1_1 a1_2 a1_3 = some (r1, r2, r3, r4, r5)) :
  Calls Try.prog 57 #[.agg #[.int .i64 a0_0, .slice A0_1 l0_1.length c0_1, .int .i64 a0_2, .int .i64 a0_3, .slice A0_4 l0_4.length c0_4], .agg #[.slice A1_0 l1_0.length c1_0, .int .i64 a1_1, .int .i64 a1_2, .string a1_3]] w fun e w' => ∃ v1_ v4_ : Value, e = .returned (.agg #[.int .i64 r1, v1_, .int .i64 r3, .int .i64 r4, v4_]) ∧ Kd.R k164 164 w' w.heap.size (fun _ => True) v1_ r2 ∧ Kd.S k44 44 w' w.heap.size (fun k_ => some k_ ≠ (v1_ : Value).ownBlock) v4_ r5 ∧ Below w.heap.size w w' := by
 have hu75 := Try.underlying75
 have hu44 := Try.underlying44
 have HR0_1 := Aside0.mk hr0_1
 have HC0_1 := Aside0.mk hc0_1
 clear hr0_1 hc0_1
 have HR0_4 := Aside0.mk hr0_4
 have HC0_4 := Aside0.mk hc0_4
 clear hr0_4 hc0_4
 have HR1_0 := Aside0.mk hr1_0
 have HC1_0 := Aside0.mk hc1_0
 clear hr1_0 hc1_0
 have HB := Aside0.mk (Below.refl w.heap.size w)
 have H : ((impl_copyGroup.f k a0_0 l0_1 a0_2 a0_3 l0_4).bind fun bt1034 => ((impl_labelsAt.f k l0_4 l1_0).bind fun t1044 => (if t1044 ≥ 0 then ((impl_copyAlarm.f l1_0 a1_1 a1_2 a1_3).bind fun bt1045 => (if 0 ≤ t1044 then (if t1044 < (bt1034.2.2.2.2.length : Int) then (some (bt1034.1, bt1034.2.1, bt1034.2.2.1, bt1034.2.2.2.1, (bt1034.2.2.2.2.set (t1044 : Int).toNat (⟨bt1045.1, bt1045.2.1, bt1045.2.2.1, bt1045.2.2.2⟩ : S44)))) else (none)) else (none))) else ((impl_inserted.f k l0_4 l1_0 a1_1 a1_2 a1_3).bind fun t1052 => (some (bt1034.1, bt1034.2.1, bt1034.2.2.1, bt1034.2.2.2.1, t1052)))))) = some (r1, r2, r3, r4, r5) := h
 clear h
 replace H := Option.bind_eq_some_iff.mp H
 obtain ⟨⟨t1034, t1035, t1038, t1039, t1040⟩, A30, H⟩ := H
 have A3 := Aside0.mk A30
 clear A30
 replace H := Option.bind_eq_some_iff.mp H
 obtain ⟨t1044, A40, H⟩ := H
 have A4 := Aside0.mk A40
 clear A40
 by_cases c5 : t1044 ≥ 0
 ·
  rw [if_pos c5] at H
  have c5b0 : decide (0 ≤ t1044) = true := decide_eq_true c5
  clear c5
  replace H := Option.bind_eq_some_iff.mp H
  obtain ⟨⟨t1045, t1048, t1049, t1050⟩, A60, H⟩ := H
  have A6 := Aside0.mk A60
  clear A60
  by_cases c7 : 0 ≤ t1044
  ·
   rw [if_pos c7] at H
   have c7b0 := decide_eq_true c7
   clear c7
   by_cases c8 : t1044 < (t1040.length : Int)
   ·
    rw [if_pos c8] at H
    have c8b0 := decide_eq_true c8
    clear c8
    obtain ⟨y1051, hy1051⟩ : ∃ y_ : List (S44), y_ = (t1040.set (t1044 : Int).toNat (⟨t1045, t1048, t1049, t1050⟩ : S44)) := ⟨_, rfl⟩
    replace H : (some (t1034, t1035, t1038, t1039, y1051)) = some (r1, r2, r3, r4, r5) := by first | (rw [hy1051]; with_reducible exact H) | (have H2_ := (Option.bind_some _ _).symm.trans H; rw [hy1051]; with_reducible exact H2_) | (have H2_ := (Option.bind_some _ _).symm.trans H; with_reducible exact H2_) | with_reducible exact H | (rw [hy1051]; exact H) | exact H
    have Ny1051 := Aside0.mk hy1051
    clear hy1051
    simp only [Option.some.injEq, Prod.mk.injEq] at H
    obtain ⟨rfl, rfl, rfl, rfl, rfl⟩ := H
    go_enter Try.func57, Try.ntmps57
    try go_wp2_with (first | ((with_reducible refine gate_dst (N := 2) rfl ?_); refine box_event ?hg (N := 2) ?hd (cs := #[.int .i64 a0_0, .slice A0_1 l0_1.length c0_1, .int .i64 a0_2, .int .i64 a0_3, .slice A0_4 l0_4.length c0_4]) (t := 75) ?hr ?_; (case hd => rfl); (case hg => rfl); (case hr => first | (go_simp; done) | (go_simp; rfl)); intro gb1031 hg w10 hbox hb; have n0_ := Aside0.mk (below_step (by repeat (first | (with_reducible first | exact HB.out | apply ba_ | apply bn_ | apply bd_) | exact HB.out)) hb); have BK1031 := Aside0.mk (hbox); have GW1031 := Aside0.mk ((by rw [hg]; exact (below_size (by repeat (first | (with_reducible first | exact HB.out | apply ba_ | apply bn_ | apply bd_) | exact HB.out))) : w.heap.size ≤ gb1031)); have GE1031 := GW1031; clear HB; have HB := n0_; clear n0_; clear hb hbox hg) | ((with_reducible refine gate_dst (N := 3) rfl ?_); refine box_event ?hg (N := 3) ?hd (cs := #[.slice A1_0 l1_0.length c1_0, .int .i64 a1_1, .int .i64 a1_2, .string a1_3]) (t := 44) ?hr ?_; (case hd => rfl); (case hg => rfl); (case hr => first | (go_simp; done) | (go_simp; rfl)); intro gb1032 hg w11 hbox hb; have n0_ := Aside0.mk (bb_ BK1031.out hb); have n1_ := Aside0.mk (below_step (by repeat (first | (with_reducible first | exact HB.out | apply ba_ | apply bn_ | apply bd_ | refine below_set ?_ GE1031.out) | exact HB.out)) hb); have n2_ := Aside0.mk (hbox); have n3_ := Aside0.mk ((by rw [hg]; exact (below_size (by repeat (first | (with_reducible first | exact HB.out | apply ba_ | apply bn_ | apply bd_ | refine below_set ?_ GE1031.out) | exact HB.out))) : w.heap.size ≤ gb1032)); have n4_ := n3_; have n5_ := Aside0.mk (nl_ BK1031.out hg); have n6_ := Aside0.mk (n5_.out.symm); clear BK1031 HB; have BK1031 := n0_; have HB := n1_; have BK1032 := n2_; have GW1032 := n3_; have GE1032 := n4_; have NB1031_1032 := n5_; have NB1032_1031 := n6_; clear n0_ n1_ n2_ n3_ n4_ n5_ n6_; clear hb hbox hg) | ((with_reducible refine gate_dst (N := 4) rfl ?_); refine box_event ?hg (N := 4) ?hd (cs := #[.int .i64 0, .slice none 0 0, .int .i64 0, .int .i64 0, .slice none 0 0]) (t := 75) ?hr ?_; (case hd => rfl); (case hg => rfl); (case hr => first | (go_simp; done) | (go_simp; rfl)); intro gb1033 hg w12 hbox hb; have n0_ := Aside0.mk (bb_ BK1031.out hb); have n1_ := Aside0.mk (bb_ BK1032.out hb); have n2_ := Aside0.mk (below_step (by repeat (first | (with_reducible first | exact HB.out | apply ba_ | apply bn_ | apply bd_ | refine below_set ?_ GE1031.out | refine below_set ?_ GE1032.out) | exact HB.out)) hb); have n3_ := Aside0.mk (hbox); have n4_ := Aside0.mk ((by rw [hg]; exact (below_size (by repeat (first | (with_reducible first | exact HB.out | apply ba_ | apply bn_ | apply bd_ | refine below_set ?_ GE1031.out | refine below_set ?_ GE1032.out) | exact HB.out))) : w.heap.size ≤ gb1033)); have n5_ := n4_; have n6_ := Aside0.mk (nl_ BK1031.out hg); have n7_ := Aside0.mk (n6_.out.symm); have n8_ := Aside0.mk (nl_ BK1032.out hg); have n9_ := Aside0.mk (n8_.out.symm); clear BK1031 BK1032 HB; have BK1031 := n0_; have BK1032 := n1_; have HB := n2_; have BK1033 := n3_; have GW1033 := n4_; have GE1033 := n5_; have NB1031_1033 := n6_; have NB1033_1031 := n7_; have NB1032_1033 := n8_; have NB1033_1032 := n9_; clear n0_ n1_ n2_ n3_ n4_ n5_ n6_ n7_ n8_ n9_; clear hb hbox hg; have hnb13 := NB1031_1032.out; have hnc13 := NB1032_1031.out; have hnb14 := NB1031_1033.out; have hnc14 := NB1033_1031.out; obtain ⟨hcz15_0, hcz15_1, hcz15_2, hcz15_3, hcz15_4, hfz15_0, hfz15_1, hfz15_2, hfz15_3, hfz15_4⟩ := bc5_ BK1031.out) | ((with_reducible refine gate_callee (f := 114) rfl ?_); refine goesL_ (some 8) rfl rfl Try.func114 (by kernel_rfl) rfl #[.agg #[.int .i64 a0_0, .slice A0_1 l0_1.length c0_1, .int .i64 a0_2, .int .i64 a0_3, .slice A0_4 l0_4.length c0_4]] rfl (by (try simp only [mp_]); first | done | rfl | (simp only [List.length_drop, List.length_take]; rfl)) ?_; (with_reducible refine (impl_copyGroup.calls k a0_0 _ _ l0_1 a0_2 a0_3 _ _ l0_4 t1034 t1035 t1038 t1039 t1040 _ ?side1 ?side2 ?side3 ?side4 A3.out).mono ?_); (case side1 => repeat (first | exact (Kd.C_below HR0_1.out HB.out) | (with_reducible first | refine ca_ ?_ _ | refine cn_ ?_ _ | refine cd_ ?_))); (case side2 => exact HC0_1.out); (case side3 => repeat (first | exact (Kd.C_below HR0_4.out HB.out) | (with_reducible first | refine ca_ ?_ _ | refine cn_ ?_ _ | refine cd_ ?_))); (case side4 => exact HC0_4.out); rintro e w16 ⟨v1036, v1041, rfl, ho0, ho1, hb⟩; refine ⟨_, rfl, ?_⟩; have n0_ := Aside0.mk (Kd.R_lower ho0 (below_size (by repeat (first | (with_reducible first | exact HB.out | apply ba_ | apply bn_ | apply bd_ | refine below_set ?_ GE1031.out | refine below_set ?_ GE1032.out | refine below_set ?_ GE1033.out) | exact HB.out)))); have n1_ := Aside0.mk (Kd.S_lower (Kd.S_newB ho1 (g := gb1032) (o := .cells #[.slice A1_0 l1_0.length c1_0, .int .i64 a1_1, .int .i64 a1_2, .string a1_3] 44 (0, 0)) (pb_ BK1032.out)) (below_size (by repeat (first | (with_reducible first | exact HB.out | apply ba_ | apply bn_ | apply bd_ | refine below_set ?_ GE1031.out | refine below_set ?_ GE1032.out | refine below_set ?_ GE1033.out) | exact HB.out)))); have n2_ := Aside0.mk (bb_ BK1031.out hb); have n3_ := Aside0.mk (bb_ BK1032.out hb); have n4_ := Aside0.mk (bb_ BK1033.out hb); have n5_ := Aside0.mk (below_step (by repeat (first | (with_reducible first | exact HB.out | apply ba_ | apply bn_ | apply bd_ | refine below_set ?_ GE1031.out | refine below_set ?_ GE1032.out | refine below_set ?_ GE1033.out) | exact HB.out)) hb); clear BK1031 BK1032 BK1033 HB; have HO1037 := n0_; have HO1042 := n1_; have BK1031 := n2_; have BK1032 := n3_; have BK1033 := n4_; have HB := n5_; clear n0_ n1_ n2_ n3_ n4_ n5_; (try clear hb); (try clear hb2); (try clear hk); (try clear hi); (try clear ho0); (try clear ho1)) | ((with_reducible refine gate_dst (N := 5) rfl ?_); refine box_event ?hg (N := 5) ?hd (cs := #[.int .i64 0, .slice none 0 0, .int .i64 0, .int .i64 0, .slice none 0 0]) (t := 75) ?hr ?_; (case hd => rfl); (case hg => rfl); (case hr => first | (go_simp; done) | (go_simp; rfl)); intro gb1043 hg w17 hbox hb; have n0_ := Aside0.mk (Kd.R_below (rp_ HO1037.out) hb); have n1_ := Aside0.mk (Kd.S_below (sp_ HO1042.out) hb); have n2_ := Aside0.mk (bb_ BK1031.out hb); have n3_ := Aside0.mk (bb_ BK1032.out hb); have n4_ := Aside0.mk (bb_ BK1033.out hb); have n5_ := Aside0.mk (below_step (by repeat (first | (with_reducible first | exact HB.out | apply ba_ | apply bn_ | apply bd_ | refine below_set ?_ GE1031.out | refine below_set ?_ GE1032.out | refine below_set ?_ GE1033.out) | exact HB.out)) hb); have n6_ := Aside0.mk (hbox); have n7_ := Aside0.mk ((by rw [hg]; exact (below_size (by repeat (first | (with_reducible first | exact HB.out | apply ba_ | apply bn_ | apply bd_ | refine below_set ?_ GE1031.out | refine below_set ?_ GE1032.out | refine below_set ?_ GE1033.out) | exact HB.out))) : w.heap.size ≤ gb1043)); have n8_ := n7_; have n9_ := Aside0.mk (nl_ BK1031.out hg); have n10_ := Aside0.mk (n9_.out.symm); have n11_ := Aside0.mk (nl_ BK1032.out hg); have n12_ := Aside0.mk (n11_.out.symm); have n13_ := Aside0.mk (nl_ BK1033.out hg); have n14_ := Aside0.mk (n13_.out.symm); clear HO1037 HO1042 BK1031 BK1032 BK1033 HB; have HO1037 := n0_; have HO1042 := n1_; have BK1031 := n2_; have BK1032 := n3_; have BK1033 := n4_; have HB := n5_; have BK1043 := n6_; have GW1043 := n7_; have GE1043 := n8_; have NB1031_1043 := n9_; have NB1043_1031 := n10_; have NB1032_1043 := n11_; have NB1043_1032 := n12_; have NB1033_1043 := n13_; have NB1043_1033 := n14_; clear n0_ n1_ n2_ n3_ n4_ n5_ n6_ n7_ n8_ n9_ n10_ n11_ n12_ n13_ n14_; clear hb hbox hg; have hnb18 := NB1043_1031.out; have hnc18 := NB1031_1043.out; have hnb19 := NB1043_1032.out; have hnc19 := NB1032_1043.out; have hnb20 := NB1043_1033.out; have hnc20 := NB1033_1043.out; obtain ⟨hcz21_0, hcz21_1, hcz21_2, hcz21_3, hcz21_4, hfz21_0, hfz21_1, hfz21_2, hfz21_3, hfz21_4⟩ := bc5_ BK1043.out; obtain ⟨Ao22, co22, eo22⟩ := Kd.R_slice HO1037.out; subst eo22; obtain ⟨Ao23, co23, eo23⟩ := Kd.S_slice HO1042.out; subst eo23; obtain ⟨hcz24_0, hcz24_1, hcz24_2, hcz24_3, hcz24_4, hfz24_0, hfz24_1, hfz24_2, hfz24_3, hfz24_4⟩ := bc5_ BK1031.out; have hnb25 := NB1032_1033.out; have hnc25 := NB1033_1032.out; obtain ⟨hcz26_0, hcz26_1, hcz26_2, hcz26_3, hfz26_0, hfz26_1, hfz26_2, hfz26_3⟩ := bc4_ BK1032.out) | ((with_reducible refine gate_callee (f := 115) rfl ?_); refine goesL_ (some 13) rfl rfl Try.func115 (by kernel_rfl) rfl #[.slice A0_4 l0_4.length c0_4, .slice A1_0 l1_0.length c1_0] rfl (by (try simp only [mp_]); first | done | rfl | (simp only [List.length_drop, List.length_take]; rfl)) ?_; (with_reducible refine (impl_labelsAt.calls k _ _ l0_4 _ _ l1_0 t1044 _ ?side1 ?side2 ?side3 ?side4 A4.out).mono ?_); (case side1 => exact Kd.C_below HR0_4.out (by repeat (first | (with_reducible first | exact HB.out | apply ba_ | apply bn_ | apply bd_ | refine below_set ?_ GE1031.out | refine below_set ?_ GE1032.out | refine below_set ?_ GE1033.out | refine below_set ?_ GE1043.out) | exact HB.out))); (case side2 => exact HC0_4.out); (case side3 => exact Kd.C_below HR1_0.out (by repeat (first | (with_reducible first | exact HB.out | apply ba_ | apply bn_ | apply bd_ | refine below_set ?_ GE1031.out | refine below_set ?_ GE1032.out | refine below_set ?_ GE1033.out | refine below_set ?_ GE1043.out) | exact HB.out))); (case side4 => exact HC1_0.out); rintro e w27 ⟨rfl, hb⟩; refine ⟨_, rfl, ?_⟩; have n0_ := Aside0.mk (Kd.R_below (by (with_reducible repeat (first | apply Kd.R_alloc | apply Kd.R_drewN | apply Kd.R_drew)); exact (Kd.R_mono (Kd.R_far (p := ⟨gb1043, 4, none⟩) (Kd.R_far (p := ⟨gb1043, 3, none⟩) (Kd.R_far (p := ⟨gb1043, 2, none⟩) (Kd.R_far (p := ⟨gb1043, 1, none⟩) (Kd.R_far (p := ⟨gb1043, 0, none⟩) (Kd.R_types HO1037.out BK1043.out (by decide)) (fun _ hk => hk.2) (.int .i64 t1034)) (fun _ hk => hk.2) (.slice Ao22 t1035.length co22)) (fun _ hk => hk.2) (.int .i64 t1038)) (fun _ hk => hk.2) (.int .i64 t1039)) (fun _ hk => hk.2) (.slice Ao23 t1040.length co23)) (fun _ h_ => h_.1))) hb); have n1_ := Aside0.mk (Kd.S_below (by (with_reducible repeat (first | apply Kd.S_alloc | apply Kd.S_drewN | apply Kd.S_drew)); exact (Kd.S_mono (Kd.S_far (p := ⟨gb1043, 4, none⟩) (Kd.S_far (p := ⟨gb1043, 3, none⟩) (Kd.S_far (p := ⟨gb1043, 2, none⟩) (Kd.S_far (p := ⟨gb1043, 1, none⟩) (Kd.S_far (p := ⟨gb1043, 0, none⟩) (Kd.S_types HO1042.out BK1043.out (by decide)) (fun _ hk => hk.2) (.int .i64 t1034)) (fun _ hk => hk.2) (.slice Ao22 t1035.length co22)) (fun _ hk => hk.2) (.int .i64 t1038)) (fun _ hk => hk.2) (.int .i64 t1039)) (fun _ hk => hk.2) (.slice Ao23 t1040.length co23)) (fun _ h_ => h_.1))) hb); have n2_ := Aside0.mk (blk_below (g := gb1031) (o := .cells #[.int .i64 a0_0, .slice A0_1 l0_1.length c0_1, .int .i64 a0_2, .int .i64 a0_3, .slice A0_4 l0_4.length c0_4] 75 (0, 0)) (by (with_reducible repeat (first | refine kn_ ?_ _ | refine kd_ ?_ | refine ka_ ?_ _)); refine blk_far ?_ NB1031_1043.out _; (with_reducible repeat (first | refine kn_ ?_ _ | refine kd_ ?_ | refine ka_ ?_ _)); refine blk_far ?_ NB1031_1043.out _; (with_reducible repeat (first | refine kn_ ?_ _ | refine kd_ ?_ | refine ka_ ?_ _)); refine blk_far ?_ NB1031_1043.out _; (with_reducible repeat (first | refine kn_ ?_ _ | refine kd_ ?_ | refine ka_ ?_ _)); refine blk_far ?_ NB1031_1043.out _; (with_reducible repeat (first | refine kn_ ?_ _ | refine kd_ ?_ | refine ka_ ?_ _)); refine blk_far ?_ NB1031_1043.out _; (with_reducible repeat (first | refine kn_ ?_ _ | refine kd_ ?_ | refine ka_ ?_ _)); exact BK1031.out) hb); have n3_ := Aside0.mk (blk_below (g := gb1032) (o := .cells #[.slice A1_0 l1_0.length c1_0, .int .i64 a1_1, .int .i64 a1_2, .string a1_3] 44 (0, 0)) (by (with_reducible repeat (first | refine kn_ ?_ _ | refine kd_ ?_ | refine ka_ ?_ _)); refine blk_far ?_ NB1032_1043.out _; (with_reducible repeat (first | refine kn_ ?_ _ | refine kd_ ?_ | refine ka_ ?_ _)); refine blk_far ?_ NB1032_1043.out _; (with_reducible repeat (first | refine kn_ ?_ _ | refine kd_ ?_ | refine ka_ ?_ _)); refine blk_far ?_ NB1032_1043.out _; (with_reducible repeat (first | refine kn_ ?_ _ | refine kd_ ?_ | refine ka_ ?_ _)); refine blk_far ?_ NB1032_1043.out _; (with_reducible repeat (first | refine kn_ ?_ _ | refine kd_ ?_ | refine ka_ ?_ _)); refine blk_far ?_ NB1032_1043.out _; (with_reducible repeat (first | refine kn_ ?_ _ | refine kd_ ?_ | refine ka_ ?_ _)); exact BK1032.out) hb); have n4_ := Aside0.mk (blk_below (g := gb1033) (o := .cells #[.int .i64 0, .slice none 0 0, .int .i64 0, .int .i64 0, .slice none 0 0] 75 (0, 0)) (by (with_reducible repeat (first | refine kn_ ?_ _ | refine kd_ ?_ | refine ka_ ?_ _)); refine blk_far ?_ NB1033_1043.out _; (with_reducible repeat (first | refine kn_ ?_ _ | refine kd_ ?_ | refine ka_ ?_ _)); refine blk_far ?_ NB1033_1043.out _; (with_reducible repeat (first | refine kn_ ?_ _ | refine kd_ ?_ | refine ka_ ?_ _)); refine blk_far ?_ NB1033_1043.out _; (with_reducible repeat (first | refine kn_ ?_ _ | refine kd_ ?_ | refine ka_ ?_ _)); refine blk_far ?_ NB1033_1043.out _; (with_reducible repeat (first | refine kn_ ?_ _ | refine kd_ ?_ | refine ka_ ?_ _)); refine blk_far ?_ NB1033_1043.out _; (with_reducible repeat (first | refine kn_ ?_ _ | refine kd_ ?_ | refine ka_ ?_ _)); exact BK1033.out) hb); have n5_ := Aside0.mk (blk_below (g := gb1043) (o := .cells #[.int .i64 t1034, .slice Ao22 t1035.length co22, .int .i64 t1038, .int .i64 t1039, .slice Ao23 t1040.length co23] 75 (0, 0)) (by (with_reducible repeat (first | refine kn_ ?_ _ | refine kd_ ?_ | refine ka_ ?_ _)); refine blk_put (cs := #[.int .i64 t1034, .slice Ao22 t1035.length co22, .int .i64 t1038, .int .i64 t1039, .slice none 0 0]) ?_ 4 _ rfl; (with_reducible repeat (first | refine kn_ ?_ _ | refine kd_ ?_ | refine ka_ ?_ _)); refine blk_put (cs := #[.int .i64 t1034, .slice Ao22 t1035.length co22, .int .i64 t1038, .int .i64 0, .slice none 0 0]) ?_ 3 _ rfl; (with_reducible repeat (first | refine kn_ ?_ _ | refine kd_ ?_ | refine ka_ ?_ _)); refine blk_put (cs := #[.int .i64 t1034, .slice Ao22 t1035.length co22, .int .i64 0, .int .i64 0, .slice none 0 0]) ?_ 2 _ rfl; (with_reducible repeat (first | refine kn_ ?_ _ | refine kd_ ?_ | refine ka_ ?_ _)); refine blk_put (cs := #[.int .i64 t1034, .slice none 0 0, .int .i64 0, .int .i64 0, .slice none 0 0]) ?_ 1 _ rfl; (with_reducible repeat (first | refine kn_ ?_ _ | refine kd_ ?_ | refine ka_ ?_ _)); refine blk_put (cs := #[.int .i64 0, .slice none 0 0, .int .i64 0, .int .i64 0, .slice none 0 0]) ?_ 0 _ rfl; (with_reducible repeat (first | refine kn_ ?_ _ | refine kd_ ?_ | refine ka_ ?_ _)); exact BK1043.out) hb); have n6_ := Aside0.mk (below_step (by repeat (first | (with_reducible first | exact HB.out | apply ba_ | apply bn_ | apply bd_ | refine below_set ?_ GE1031.out | refine below_set ?_ GE1032.out | refine below_set ?_ GE1033.out | refine below_set ?_ GE1043.out) | exact HB.out)) hb); clear HO1037 HO1042 BK1031 BK1032 BK1033 BK1043 HB; have HO1037 := n0_; have HO1042 := n1_; have BK1031 := n2_; have BK1032 := n3_; have BK1033 := n4_; have BK1043 := n5_; have HB := n6_; clear n0_ n1_ n2_ n3_ n4_ n5_ n6_; (try clear hb); (try clear hb2); (try clear hk); (try clear hi)))
    have n0_ := Aside0.mk (Kd.R_drew HO1037.out)
    have n1_ := Aside0.mk (Kd.S_drew HO1042.out)
    have n2_ := Aside0.mk (blk_drew BK1031.out)
    have n3_ := Aside0.mk (blk_drew BK1032.out)
    have n4_ := Aside0.mk (blk_drew BK1033.out)
    have n5_ := Aside0.mk (blk_drew BK1043.out)
    have n6_ := Aside0.mk (bd_ HB.out)
    clear HO1037 HO1042 BK1031 BK1032 BK1033 BK1043 HB
    have HO1037 := n0_
    have HO1042 := n1_
    have BK1031 := n2_
    have BK1032 := n3_
    have BK1033 := n4_
    have BK1043 := n5_
    have HB := n6_
    clear n0_ n1_ n2_ n3_ n4_ n5_ n6_
    refine start_ (n := 7) (S := fun w' => w'.cell? ⟨gb1043, 0, none⟩ = some (.int .i64 t1034) ∧ w'.cell? ⟨gb1043, 1, none⟩ = some (.slice Ao22 t1035.length co22) ∧ w'.cell? ⟨gb1043, 2, none⟩ = some (.int .i64 t1038) ∧ w'.cell? ⟨gb1043, 3, none⟩ = some (.int .i64 t1039) ∧ w'.cell? ⟨gb1043, 4, none⟩ = some (.slice Ao23 t1040.length co23) ∧ w'.cell? ⟨gb1032, 0, none⟩ = some (.slice A1_0 l1_0.length c1_0) ∧ w'.cell? ⟨gb1032, 1, none⟩ = some (.int .i64 a1_1) ∧ w'.cell? ⟨gb1032, 2, none⟩ = some (.int .i64 a1_2) ∧ w'.cell? ⟨gb1032, 3, none⟩ = some (.string a1_3)) (ds := [6]) #[f_,f_,f_,f_,f_,f_,f_] (by kernel_rfl) rfl rfl ⟨bx_ BK1043.out 0, bx_ BK1043.out 1, bx_ BK1043.out 2, bx_ BK1043.out 3, bx_ BK1043.out 4, bx_ BK1032.out 0, bx_ BK1032.out 1, bx_ BK1032.out 2, bx_ BK1032.out 3⟩ (fun hHeld => ?_)
    generalize w27.drew = w28 at HO1037 HO1042 BK1031 BK1032 BK1033 BK1043 HB hHeld ⊢
    refine pure_ (i := 0) (N := some 16) (v := ?_) (a' := ?_) #[t_,f_,f_,f_,f_,f_,f_] rfl rfl (by kernel_rfl) (fun _ _ _ h => h) (Or.inl ⟨by rfl, ?_⟩) ?_ ?_
    rotate_left
    ·
     intro w'
     go_simp
     with_reducible rfl
    rotate_left
    ·
     simp only [fr_]
     rfl
    refine pure_ (i := 2) (N := some 18) (v := ?_) (a' := ?_) #[t_,f_,t_,f_,f_,f_,f_] rfl rfl (by kernel_rfl) (fun _ _ _ h => h) (Or.inl ⟨by rfl, ?_⟩) ?_ ?_
    rotate_left
    ·
     intro w'
     go_simp
     with_reducible rfl
    rotate_left
    ·
     simp only [fr_]
     rfl
    refine take_ (i := 1) (N := some 17) (v := ?_) (a' := ?_) #[t_,t_,t_,f_,f_,f_,f_] rfl rfl (by kernel_rfl) (fun _ _ _ h => h) (Or.inl ⟨by rfl, ?_⟩) hHeld ?_ ?_
    rotate_left
    ·
     rintro w' ⟨s0, s1, s2, s3, s4, s5, s6, s7, s8⟩
     go_simp
     with_reducible rfl
    rotate_left
    ·
     simp only [fr_]
     rfl
    refine take_ (i := 3) (N := some 19) (v := ?_) (a' := ?_) #[t_,t_,t_,t_,f_,f_,f_] rfl rfl (by kernel_rfl) (fun _ _ _ h => h) (Or.inl ⟨by rfl, ?_⟩) hHeld ?_ ?_
    rotate_left
    ·
     rintro w' ⟨s0, s1, s2, s3, s4, s5, s6, s7, s8⟩
     go_simp
     with_reducible rfl
    rotate_left
    ·
     simp only [fr_]
     rfl
    refine one_ (i := 4) (N := some 20) #[t_,t_,t_,t_,t_,f_,f_] rfl rfl (by kernel_rfl) (by decide) (fun K hK => ?_)
    refine goes_ Try.func97 (by kernel_rfl) rfl #[.agg #[.slice A1_0 l1_0.length c1_0, .int .i64 a1_1, .int .i64 a1_2, .string a1_3]] (by rfl) rfl rfl (by (try simp only [mp_]); first | done | rfl | (simp only [List.length_drop, List.length_take]; rfl)) ?_
    with_reducible refine (impl_copyAlarm.calls _ _ l1_0 a1_1 a1_2 a1_3 t1045 t1048 t1049 t1050 _ ?side1 ?side2 A6.out).mono ?_
    (case side1 => repeat (first | exact (Kd.C_below HR1_0.out HB.out) | (with_reducible first | refine ca_ ?_ _ | refine cn_ ?_ _ | refine cd_ ?_)))
    (case side2 => exact HC1_0.out)
    rintro e w29 ⟨v1046, rfl, ho0, hb⟩
    refine ⟨_, rfl, ?_⟩
    have n0_ := Aside0.mk (Kd.R_elder' (rp_ HO1037.out) (Kd.R_base ho0) hb)
    have n1_ := Aside0.mk (Kd.S_elder' (sp_ HO1042.out) (Kd.R_base ho0) hb)
    have n2_ := Aside0.mk (Kd.R_lower (Kd.R_new' ho0 (Kd.R_lt (rp_ HO1037.out))) (below_size (by repeat (first | (with_reducible first | exact HB.out | apply ba_ | apply bn_ | apply bd_ | refine below_set ?_ GE1031.out | refine below_set ?_ GE1032.out | refine below_set ?_ GE1033.out | refine below_set ?_ GE1043.out) | exact HB.out))))
    have n3_ := Aside0.mk (bb_ BK1031.out hb)
    have n4_ := Aside0.mk (bb_ BK1032.out hb)
    have n5_ := Aside0.mk (bb_ BK1033.out hb)
    have n6_ := Aside0.mk (bb_ BK1043.out hb)
    have n7_ := Aside0.mk (below_step (by repeat (first | (with_reducible first | exact HB.out | apply ba_ | apply bn_ | apply bd_ | refine below_set ?_ GE1031.out | refine below_set ?_ GE1032.out | refine below_set ?_ GE1033.out | refine below_set ?_ GE1043.out) | exact HB.out)) hb)
    clear HO1037 HO1042 BK1031 BK1032 BK1033 BK1043 HB
    have HO1037 := n0_
    have HO1042 := n1_
    have HO1047 := n2_
    have BK1031 := n3_
    have BK1032 := n4_
    have BK1033 := n5_
    have BK1043 := n6_
    have HB := n7_
    clear n0_ n1_ n2_ n3_ n4_ n5_ n6_ n7_
    (try clear hb)
    (try clear hb2)
    (try clear hk)
    (try clear hi)
    (try clear ho0)
    have p9 : 0 ≤ (t1044 : Int) := of_decide_eq_true (by with_reducible assumption)
    have q9 : (t1044 : Int) < ((t1040.length : Int) : Int) := of_decide_eq_true (by with_reducible assumption)
    obtain ⟨go9, co9, eo9, gb9, gl9, cl9, HG9⟩ := Kd.S_form HO1042.out (by omega)
    (first | cases eo9 | (injection eo9 with ea_ en_ ec_; (first | subst ea_ | (injection ea_ with ea_; subst ea_)); subst ec_; clear en_))
    have GB9 := Aside0.mk gb9
    have GG9 := Aside0.mk HG9
    clear gb9 gl9 HG9
    obtain ⟨_, ce9, hcl9, hM9, hcc9, hfr9, _, _⟩ := Kd.S_elem HO1042.out z44 (t1044 : Int) p9 q9
    obtain ⟨ve9_0, rfl, ge9_0⟩ := k44_openM hM9
    have hx9_0 : World.cell? _ ⟨go9, (t1044 : Int).toNat * 4, none⟩ = some (ve9_0) := hcc9 0 _ rfl
    have hx9_1 : World.cell? _ ⟨go9, (t1044 : Int).toNat * 4 + 1, none⟩ = some (.int .i64 ((rd_T44 t1040 t1044).f1)) := hcc9 1 _ rfl
    have hx9_2 : World.cell? _ ⟨go9, (t1044 : Int).toNat * 4 + 2, none⟩ = some (.int .i64 ((rd_T44 t1040 t1044).f2)) := hcc9 2 _ rfl
    have hx9_3 : World.cell? _ ⟨go9, (t1044 : Int).toNat * 4 + 3, none⟩ = some (.string ((rd_T44 t1040 t1044).f3)) := hcc9 3 _ rfl
    have hf9_0 : World.frozen? _ ⟨go9, (t1044 : Int).toNat * 4, none⟩ = false := hfr9 0
    have hf9_1 : World.frozen? _ ⟨go9, (t1044 : Int).toNat * 4 + 1, none⟩ = false := hfr9 1
    have hf9_2 : World.frozen? _ ⟨go9, (t1044 : Int).toNat * 4 + 2, none⟩ = false := hfr9 2
    have hf9_3 : World.frozen? _ ⟨go9, (t1044 : Int).toNat * 4 + 3, none⟩ = false := hfr9 3
    clear hcl9 hcc9 hfr9 hM9
    replace p9 := eq_true p9
    replace q9 := eq_true q9
    obtain ⟨Ao31, co31, eo31⟩ := Kd.R_slice HO1047.out
    (first | subst eo31 | (injection eo31 with f1_ f2_ f3_; have f4_ := f1_.symm; have f5_ := f3_.symm; clear f1_ f2_ f3_; subst f4_; subst f5_))
    have HX30 := Aside0.mk (show Kd.S k44 44 _ w.heap.size (fun k_ => ((fun k_ => some k_ ≠ (.slice Ao22 t1035.length co22 : Value).ownBlock ∧ k_ ≠ gb1032)) k_ ∧ ¬ ((fun k_ => some k_ = (.slice Ao31 t1045.length co31 : Value).ownBlock)) k_) (.slice (some ⟨go9, 0, none⟩) t1040.length co23) t1040 from (Kd.S_mono HO1042.out (fun k_ hk => ⟨⟨hk.1.1, hk.1.2⟩, fun e_ => hk.2 e_⟩)))
    obtain ⟨oki30, ce30, hcl30, hM30, hcc30, hfr30, hoki30, hH30⟩ := Kd.S_elem HX30.out z44 (t1044 : Int) (of_decide_eq_true (by with_reducible assumption)) (by have h_ : (t1044 : Int) < ((t1040.length : Int) : Int) := of_decide_eq_true (by with_reducible assumption); first | exact h_ | (have e_ := (Kd.S_reads' HO1042.out).1; omega) | simpa using h_)
    obtain ⟨ve30_0, rfl, ge30_0⟩ := k44_openM hM30
    have HP30 := (Kd.S_seg hH30 (of_decide_eq_true (by with_reducible assumption)) (by have h_ : (t1044 : Int) < ((t1040.length : Int) : Int) := of_decide_eq_true (by with_reducible assumption); first | exact h_ | (have e_ := (Kd.S_reads' HO1042.out).1; omega) | simpa using h_) (seg := [.slice Ao31 t1045.length co31, .int .i64 t1048, .int .i64 t1049, .string t1050]) (j := 0) (show 4 ≤ 4 from by decide) (x' := (⟨t1045, t1048, t1049, t1050⟩ : S44)) (okg := (fun k_ => some k_ = (.slice Ao31 t1045.length co31 : Value).ownBlock)) (okp := fun k_ => oki30 k_ ∨ ((fun k_ => some k_ = (.slice Ao31 t1045.length co31 : Value).ownBlock)) k_) (k44_mkM _ _ _ (⟨t1045, t1048, t1049, t1050⟩ : S44) (Kd.R_mono (Kd.R_tight rfl (Kd.R_mono (ok' := fun k_ => ((fun k_ => some k_ ≠ (.slice Ao22 t1035.length co22 : Value).ownBlock ∧ k_ ≠ gb1032)) k_ ∧ k_ ≠ go9) (Kd.R_types (Kd.R_apart' (HO1047.out) (Kd.S_typed HO1042.out) (by decide)) BK1032.out (by decide)) (fun k_ hk => ⟨⟨hk.1.1.2, hk.2⟩, fun e_ => (hk.1.2) (by rw [e_]; rfl)⟩))) (fun _ h_ => Or.inr (h_)))) (fun _ hk => hk) (fun k_ hk_ => ((Kd.R_mono (ok' := fun k_ => ((fun k_ => some k_ ≠ (.slice Ao22 t1035.length co22 : Value).ownBlock ∧ k_ ≠ gb1032)) k_ ∧ k_ ≠ go9) (Kd.R_types (Kd.R_apart' (HO1047.out) (Kd.S_typed HO1042.out) (by decide)) BK1032.out (by decide)) (fun k_ hk => ⟨⟨hk.1.1.2, hk.2⟩, fun e_ => (hk.1.2) (by rw [e_]; rfl)⟩))).1 k_ hk_.symm)).1
    rw [← Ny1051.out] at HP30
    have HQ30 := Aside0.mk HP30
    clear hcl30 hcc30 hfr30 hM30 HP30
    refine hK.out _ _ ⟨bx_ BK1043.out 0, bx_ BK1043.out 1, bx_ BK1043.out 2, bx_ BK1043.out 3, bx_ BK1043.out 4, bx_ BK1032.out 0, bx_ BK1032.out 1, bx_ BK1032.out 2, bx_ BK1032.out 3⟩ (fun hHeld => ?_)
    clear hK K
    refine norm_ (a' := ?_) ?_ ?_
    rotate_left
    ·
     show Act.put _ (some 20) _ = _
     simp only [fr_]
     rfl
    refine pure_ (i := 5) (N := some 21) (v := ?_) (a' := ?_) #[t_,t_,t_,t_,t_,t_,f_] rfl rfl (by kernel_rfl) (fun _ _ _ h => h) (Or.inl ⟨by rfl, ?_⟩) ?_ ?_
    rotate_left
    ·
     intro w'
     go_simp
     with_reducible rfl
    rotate_left
    ·
     simp only [fr_]
     rfl
    refine last_ (i := 6) (N := none) #[t_,t_,t_,t_,t_,t_,t_] rfl rfl (by kernel_rfl) (by decide) (fun K hK => ?_)
    refine skip_ (w1 := ?_) (by rfl) rfl ?_ ?_
    rotate_left
    ·
     go_simp
     rfl
    refine hK.out _ _ ?_
    clear hK K
    refine done_ (by kernel_rfl) ?_
    have n0_ : Aside0 (Kd.R k164 164 ((((w29.setCell ⟨go9, (t1044 : Int).toNat * 4, none⟩ (.slice Ao31 t1045.length co31)).setCell ⟨go9, (t1044 : Int).toNat * 4 + 1, none⟩ (.int .i64 t1048)).setCell ⟨go9, (t1044 : Int).toNat * 4 + 2, none⟩ (.int .i64 t1049)).setCell ⟨go9, (t1044 : Int).toNat * 4 + 3, none⟩ (.string t1050)) w.heap.size (fun _ => True) (.slice Ao22 t1035.length co22) t1035) := ⟨by (with_reducible repeat (first | apply Kd.R_alloc | apply Kd.R_drewN | apply Kd.R_drew)); exact Kd.R_mono (Kd.R_far (p := ⟨go9, (t1044 : Int).toNat * 4 + 3, none⟩) (Kd.R_far (p := ⟨go9, (t1044 : Int).toNat * 4 + 2, none⟩) (Kd.R_far (p := ⟨go9, (t1044 : Int).toNat * 4 + 1, none⟩) (Kd.R_far (p := ⟨go9, (t1044 : Int).toNat * 4, none⟩) (Kd.R_types HO1037.out GG9.out (by decide)) (fun _ hk => hk.2) (.slice Ao31 t1045.length co31)) (fun _ hk => hk.2) (.int .i64 t1048)) (fun _ hk => hk.2) (.int .i64 t1049)) (fun _ hk => hk.2) (.string t1050)) (fun _ hk => trivial)⟩
    have n1_ : Aside0 (Kd.S k44 44 ((((w29.setCell ⟨go9, (t1044 : Int).toNat * 4, none⟩ (.slice Ao31 t1045.length co31)).setCell ⟨go9, (t1044 : Int).toNat * 4 + 1, none⟩ (.int .i64 t1048)).setCell ⟨go9, (t1044 : Int).toNat * 4 + 2, none⟩ (.int .i64 t1049)).setCell ⟨go9, (t1044 : Int).toNat * 4 + 3, none⟩ (.string t1050)) w.heap.size (fun k_ => some k_ ≠ (.slice Ao22 t1035.length co22 : Value).ownBlock ∧ k_ ≠ gb1032) (.slice (some ⟨go9, 0, none⟩) t1040.length co23) y1051) := ⟨by (with_reducible repeat (first | apply Kd.S_alloc | apply Kd.S_drewN | apply Kd.S_drew)); exact HQ30.out⟩
    have n2_ : Aside0 (((((w29.setCell ⟨go9, (t1044 : Int).toNat * 4, none⟩ (.slice Ao31 t1045.length co31)).setCell ⟨go9, (t1044 : Int).toNat * 4 + 1, none⟩ (.int .i64 t1048)).setCell ⟨go9, (t1044 : Int).toNat * 4 + 2, none⟩ (.int .i64 t1049)).setCell ⟨go9, (t1044 : Int).toNat * 4 + 3, none⟩ (.string t1050)).heap[gb1031]? = some (.cells #[.int .i64 a0_0, .slice A0_1 l0_1.length c0_1, .int .i64 a0_2, .int .i64 a0_3, .slice A0_4 l0_4.length c0_4] 75 (0, 0))) := ⟨by (with_reducible repeat (first | refine kn_ ?_ _ | refine kd_ ?_ | refine ka_ ?_ _)); refine blk_far ?_ (by have h_ := Kd.S_ne HO1042.out BK1031.out (by decide); intro e_; exact h_ (by rw [e_]; rfl)) _; (with_reducible repeat (first | refine kn_ ?_ _ | refine kd_ ?_ | refine ka_ ?_ _)); refine blk_far ?_ (by have h_ := Kd.S_ne HO1042.out BK1031.out (by decide); intro e_; exact h_ (by rw [e_]; rfl)) _; (with_reducible repeat (first | refine kn_ ?_ _ | refine kd_ ?_ | refine ka_ ?_ _)); refine blk_far ?_ (by have h_ := Kd.S_ne HO1042.out BK1031.out (by decide); intro e_; exact h_ (by rw [e_]; rfl)) _; (with_reducible repeat (first | refine kn_ ?_ _ | refine kd_ ?_ | refine ka_ ?_ _)); refine blk_far ?_ (by have h_ := Kd.S_ne HO1042.out BK1031.out (by decide); intro e_; exact h_ (by rw [e_]; rfl)) _; (with_reducible repeat (first | refine kn_ ?_ _ | refine kd_ ?_ | refine ka_ ?_ _)); exact BK1031.out⟩
    have n3_ : Aside0 (((((w29.setCell ⟨go9, (t1044 : Int).toNat * 4, none⟩ (.slice Ao31 t1045.length co31)).setCell ⟨go9, (t1044 : Int).toNat * 4 + 1, none⟩ (.int .i64 t1048)).setCell ⟨go9, (t1044 : Int).toNat * 4 + 2, none⟩ (.int .i64 t1049)).setCell ⟨go9, (t1044 : Int).toNat * 4 + 3, none⟩ (.string t1050)).heap[gb1032]? = some (.cells #[.slice A1_0 l1_0.length c1_0, .int .i64 a1_1, .int .i64 a1_2, .string a1_3] 44 (0, 0))) := ⟨by (with_reducible repeat (first | refine kn_ ?_ _ | refine kd_ ?_ | refine ka_ ?_ _)); refine blk_far ?_ (by have h_ := Kd.S_away HO1042.out (fun _ hk => hk.1.2); intro e_; exact h_ (by rw [e_]; rfl)) _; (with_reducible repeat (first | refine kn_ ?_ _ | refine kd_ ?_ | refine ka_ ?_ _)); refine blk_far ?_ (by have h_ := Kd.S_away HO1042.out (fun _ hk => hk.1.2); intro e_; exact h_ (by rw [e_]; rfl)) _; (with_reducible repeat (first | refine kn_ ?_ _ | refine kd_ ?_ | refine ka_ ?_ _)); refine blk_far ?_ (by have h_ := Kd.S_away HO1042.out (fun _ hk => hk.1.2); intro e_; exact h_ (by rw [e_]; rfl)) _; (with_reducible repeat (first | refine kn_ ?_ _ | refine kd_ ?_ | refine ka_ ?_ _)); refine blk_far ?_ (by have h_ := Kd.S_away HO1042.out (fun _ hk => hk.1.2); intro e_; exact h_ (by rw [e_]; rfl)) _; (with_reducible repeat (first | refine kn_ ?_ _ | refine kd_ ?_ | refine ka_ ?_ _)); exact BK1032.out⟩
    have n4_ : Aside0 (((((w29.setCell ⟨go9, (t1044 : Int).toNat * 4, none⟩ (.slice Ao31 t1045.length co31)).setCell ⟨go9, (t1044 : Int).toNat * 4 + 1, none⟩ (.int .i64 t1048)).setCell ⟨go9, (t1044 : Int).toNat * 4 + 2, none⟩ (.int .i64 t1049)).setCell ⟨go9, (t1044 : Int).toNat * 4 + 3, none⟩ (.string t1050)).heap[gb1033]? = some (.cells #[.int .i64 0, .slice none 0 0, .int .i64 0, .int .i64 0, .slice none 0 0] 75 (0, 0))) := ⟨by (with_reducible repeat (first | refine kn_ ?_ _ | refine kd_ ?_ | refine ka_ ?_ _)); refine blk_far ?_ (by have h_ := Kd.S_ne HO1042.out BK1033.out (by decide); intro e_; exact h_ (by rw [e_]; rfl)) _; (with_reducible repeat (first | refine kn_ ?_ _ | refine kd_ ?_ | refine ka_ ?_ _)); refine blk_far ?_ (by have h_ := Kd.S_ne HO1042.out BK1033.out (by decide); intro e_; exact h_ (by rw [e_]; rfl)) _; (with_reducible repeat (first | refine kn_ ?_ _ | refine kd_ ?_ | refine ka_ ?_ _)); refine blk_far ?_ (by have h_ := Kd.S_ne HO1042.out BK1033.out (by decide); intro e_; exact h_ (by rw [e_]; rfl)) _; (with_reducible repeat (first | refine kn_ ?_ _ | refine kd_ ?_ | refine ka_ ?_ _)); refine blk_far ?_ (by have h_ := Kd.S_ne HO1042.out BK1033.out (by decide); intro e_; exact h_ (by rw [e_]; rfl)) _; (with_reducible repeat (first | refine kn_ ?_ _ | refine kd_ ?_ | refine ka_ ?_ _)); exact BK1033.out⟩
    have n5_ : Aside0 (((((w29.setCell ⟨go9, (t1044 : Int).toNat * 4, none⟩ (.slice Ao31 t1045.length co31)).setCell ⟨go9, (t1044 : Int).toNat * 4 + 1, none⟩ (.int .i64 t1048)).setCell ⟨go9, (t1044 : Int).toNat * 4 + 2, none⟩ (.int .i64 t1049)).setCell ⟨go9, (t1044 : Int).toNat * 4 + 3, none⟩ (.string t1050)).heap[gb1043]? = some (.cells #[.int .i64 t1034, .slice Ao22 t1035.length co22, .int .i64 t1038, .int .i64 t1039, .slice (some ⟨go9, 0, none⟩) t1040.length co23] 75 (0, 0))) := ⟨by (with_reducible repeat (first | refine kn_ ?_ _ | refine kd_ ?_ | refine ka_ ?_ _)); refine blk_far ?_ (by have h_ := Kd.S_ne HO1042.out BK1043.out (by decide); intro e_; exact h_ (by rw [e_]; rfl)) _; (with_reducible repeat (first | refine kn_ ?_ _ | refine kd_ ?_ | refine ka_ ?_ _)); refine blk_far ?_ (by have h_ := Kd.S_ne HO1042.out BK1043.out (by decide); intro e_; exact h_ (by rw [e_]; rfl)) _; (with_reducible repeat (first | refine kn_ ?_ _ | refine kd_ ?_ | refine ka_ ?_ _)); refine blk_far ?_ (by have h_ := Kd.S_ne HO1042.out BK1043.out (by decide); intro e_; exact h_ (by rw [e_]; rfl)) _; (with_reducible repeat (first | refine kn_ ?_ _ | refine kd_ ?_ | refine ka_ ?_ _)); refine blk_far ?_ (by have h_ := Kd.S_ne HO1042.out BK1043.out (by decide); intro e_; exact h_ (by rw [e_]; rfl)) _; (with_reducible repeat (first | refine kn_ ?_ _ | refine kd_ ?_ | refine ka_ ?_ _)); exact BK1043.out⟩
    have n6_ : Aside0 (Below w.heap.size w ((((w29.setCell ⟨go9, (t1044 : Int).toNat * 4, none⟩ (.slice Ao31 t1045.length co31)).setCell ⟨go9, (t1044 : Int).toNat * 4 + 1, none⟩ (.int .i64 t1048)).setCell ⟨go9, (t1044 : Int).toNat * 4 + 2, none⟩ (.int .i64 t1049)).setCell ⟨go9, (t1044 : Int).toNat * 4 + 3, none⟩ (.string t1050))) := ⟨by repeat (first | (with_reducible first | exact HB.out | apply ba_ | apply bn_ | apply bd_ | refine below_set ?_ GB9.out | refine below_set ?_ GB9.out | refine below_set ?_ GB9.out | refine below_set ?_ GB9.out | refine below_set ?_ GE1031.out | refine below_set ?_ GE1032.out | refine below_set ?_ GE1033.out | refine below_set ?_ GE1043.out) | exact HB.out)⟩
    (try clear HO1037)
    (try clear HO1042)
    (try clear BK1031)
    (try clear BK1032)
    (try clear BK1033)
    (try clear BK1043)
    (try clear HB)
    generalize ((((w29.setCell ⟨go9, (t1044 : Int).toNat * 4, none⟩ (.slice Ao31 t1045.length co31)).setCell ⟨go9, (t1044 : Int).toNat * 4 + 1, none⟩ (.int .i64 t1048)).setCell ⟨go9, (t1044 : Int).toNat * 4 + 2, none⟩ (.int .i64 t1049)).setCell ⟨go9, (t1044 : Int).toNat * 4 + 3, none⟩ (.string t1050)) = w32 at n0_ n1_ n2_ n3_ n4_ n5_ n6_ ⊢
    have HO1037 := n0_
    have HO1042 := n1_
    have BK1031 := n2_
    have BK1032 := n3_
    have BK1033 := n4_
    have BK1043 := n5_
    have HB := n6_
    clear n0_ n1_ n2_ n3_ n4_ n5_ n6_
    obtain ⟨hcz33_0, hcz33_1, hcz33_2, hcz33_3, hcz33_4, hfz33_0, hfz33_1, hfz33_2, hfz33_3, hfz33_4⟩ := bc5_ BK1043.out
    obtain ⟨hcz34_0, hcz34_1, hcz34_2, hcz34_3, hcz34_4, hfz34_0, hfz34_1, hfz34_2, hfz34_3, hfz34_4⟩ := bc5_ BK1033.out
    try go_wp2
    refine bodyPost_ret (results_cell_row rfl _ _ gb1033 75 #[.int .i64 t1034, .slice Ao22 t1035.length co22, .int .i64 t1038, .int .i64 t1039, .slice (some ⟨go9, 0, none⟩) t1040.length co23] (0, 0) _ rfl (by (with_reducible repeat (first | refine kn_ ?_ _ | refine kd_ ?_ | refine ka_ ?_ _)); refine blk_put (cs := #[.int .i64 t1034, .slice Ao22 t1035.length co22, .int .i64 t1038, .int .i64 t1039, .slice none 0 0]) ?_ 4 _ rfl; (with_reducible repeat (first | refine kn_ ?_ _ | refine kd_ ?_ | refine ka_ ?_ _)); refine blk_put (cs := #[.int .i64 t1034, .slice Ao22 t1035.length co22, .int .i64 t1038, .int .i64 0, .slice none 0 0]) ?_ 3 _ rfl; (with_reducible repeat (first | refine kn_ ?_ _ | refine kd_ ?_ | refine ka_ ?_ _)); refine blk_put (cs := #[.int .i64 t1034, .slice Ao22 t1035.length co22, .int .i64 0, .int .i64 0, .slice none 0 0]) ?_ 2 _ rfl; (with_reducible repeat (first | refine kn_ ?_ _ | refine kd_ ?_ | refine ka_ ?_ _)); refine blk_put (cs := #[.int .i64 t1034, .slice none 0 0, .int .i64 0, .int .i64 0, .slice none 0 0]) ?_ 1 _ rfl; (with_reducible repeat (first | refine kn_ ?_ _ | refine kd_ ?_ | refine ka_ ?_ _)); refine blk_put (cs := #[.int .i64 0, .slice none 0 0, .int .i64 0, .int .i64 0, .slice none 0 0]) ?_ 0 _ rfl; (with_reducible repeat (first | refine kn_ ?_ _ | refine kd_ ?_ | refine ka_ ?_ _)); exact BK1033.out) Try.underlying75 rfl (by kernel_rfl)) rfl ?_
    exact ⟨_, _, by first | rfl | (simp [errW_none, errW_some] <;> rfl) | (simp [*, errW_none, errW_some] <;> rfl), by (with_reducible repeat (first | apply Kd.R_alloc | apply Kd.R_drewN | apply Kd.R_drew)); exact Kd.R_mono (Kd.R_far (p := ⟨gb1033, 4, none⟩) (Kd.R_far (p := ⟨gb1033, 3, none⟩) (Kd.R_far (p := ⟨gb1033, 2, none⟩) (Kd.R_far (p := ⟨gb1033, 1, none⟩) (Kd.R_far (p := ⟨gb1033, 0, none⟩) (Kd.R_types HO1037.out BK1033.out (by decide)) (fun _ hk => hk.2) (.int .i64 t1034)) (fun _ hk => hk.2) (.slice Ao22 t1035.length co22)) (fun _ hk => hk.2) (.int .i64 t1038)) (fun _ hk => hk.2) (.int .i64 t1039)) (fun _ hk => hk.2) (.slice (some ⟨go9, 0, none⟩) t1040.length co23)) (fun _ hk => trivial), by (with_reducible repeat (first | apply Kd.S_alloc | apply Kd.S_drewN | apply Kd.S_drew)); exact Kd.S_mono (Kd.S_far (p := ⟨gb1033, 4, none⟩) (Kd.S_far (p := ⟨gb1033, 3, none⟩) (Kd.S_far (p := ⟨gb1033, 2, none⟩) (Kd.S_far (p := ⟨gb1033, 1, none⟩) (Kd.S_far (p := ⟨gb1033, 0, none⟩) (Kd.S_types HO1042.out BK1033.out (by decide)) (fun _ hk => hk.2) (.int .i64 t1034)) (fun _ hk => hk.2) (.slice Ao22 t1035.length co22)) (fun _ hk => hk.2) (.int .i64 t1038)) (fun _ hk => hk.2) (.int .i64 t1039)) (fun _ hk => hk.2) (.slice (some ⟨go9, 0, none⟩) t1040.length co23)) (fun _ hk => hk.1.1), by repeat (first | (with_reducible first | exact HB.out | apply ba_ | apply bn_ | apply bd_ | refine below_set ?_ GE1031.out | refine below_set ?_ GE1032.out | refine below_set ?_ GE1033.out | refine below_set ?_ GE1043.out) | exact HB.out)⟩
   rw [if_neg c8] at H
   exact absurd H (by simp)
  rw [if_neg c7] at H
  exact absurd H (by simp)
 rw [if_neg c5] at H
 have c5b0 : decide (0 ≤ t1044) = false := decide_eq_false c5
 clear c5
 replace H := Option.bind_eq_some_iff.mp H
 obtain ⟨t1052, A350, H⟩ := H
 have A35 := Aside0.mk A350
 clear A350
 simp only [Option.some.injEq, Prod.mk.injEq] at H
 obtain ⟨rfl, rfl, rfl, rfl, rfl⟩ := H
 go_enter Try.func57, Try.ntmps57
 go_wp2_with (first | ((with_reducible refine gate_dst (N := 2) rfl ?_); refine box_event ?hg (N := 2) ?hd (cs := #[.int .i64 a0_0, .slice A0_1 l0_1.length c0_1, .int .i64 a0_2, .int .i64 a0_3, .slice A0_4 l0_4.length c0_4]) (t := 75) ?hr ?_; (case hd => rfl); (case hg => rfl); (case hr => first | (go_simp; done) | (go_simp; rfl)); intro gb1031 hg w36 hbox hb; have n0_ := Aside0.mk (below_step (by repeat (first | (with_reducible first | exact HB.out | apply ba_ | apply bn_ | apply bd_) | exact HB.out)) hb); have BK1031 := Aside0.mk (hbox); have GW1031 := Aside0.mk ((by rw [hg]; exact (below_size (by repeat (first | (with_reducible first | exact HB.out | apply ba_ | apply bn_ | apply bd_) | exact HB.out))) : w.heap.size ≤ gb1031)); have GE1031 := GW1031; clear HB; have HB := n0_; clear n0_; clear hb hbox hg) | ((with_reducible refine gate_dst (N := 3) rfl ?_); refine box_event ?hg (N := 3) ?hd (cs := #[.slice A1_0 l1_0.length c1_0, .int .i64 a1_1, .int .i64 a1_2, .string a1_3]) (t := 44) ?hr ?_; (case hd => rfl); (case hg => rfl); (case hr => first | (go_simp; done) | (go_simp; rfl)); intro gb1032 hg w37 hbox hb; have n0_ := Aside0.mk (bb_ BK1031.out hb); have n1_ := Aside0.mk (below_step (by repeat (first | (with_reducible first | exact HB.out | apply ba_ | apply bn_ | apply bd_ | refine below_set ?_ GE1031.out) | exact HB.out)) hb); have n2_ := Aside0.mk (hbox); have n3_ := Aside0.mk ((by rw [hg]; exact (below_size (by repeat (first | (with_reducible first | exact HB.out | apply ba_ | apply bn_ | apply bd_ | refine below_set ?_ GE1031.out) | exact HB.out))) : w.heap.size ≤ gb1032)); have n4_ := n3_; have n5_ := Aside0.mk (nl_ BK1031.out hg); have n6_ := Aside0.mk (n5_.out.symm); clear BK1031 HB; have BK1031 := n0_; have HB := n1_; have BK1032 := n2_; have GW1032 := n3_; have GE1032 := n4_; have NB1031_1032 := n5_; have NB1032_1031 := n6_; clear n0_ n1_ n2_ n3_ n4_ n5_ n6_; clear hb hbox hg) | ((with_reducible refine gate_dst (N := 4) rfl ?_); refine box_event ?hg (N := 4) ?hd (cs := #[.int .i64 0, .slice none 0 0, .int .i64 0, .int .i64 0, .slice none 0 0]) (t := 75) ?hr ?_; (case hd => rfl); (case hg => rfl); (case hr => first | (go_simp; done) | (go_simp; rfl)); intro gb1033 hg w38 hbox hb; have n0_ := Aside0.mk (bb_ BK1031.out hb); have n1_ := Aside0.mk (bb_ BK1032.out hb); have n2_ := Aside0.mk (below_step (by repeat (first | (with_reducible first | exact HB.out | apply ba_ | apply bn_ | apply bd_ | refine below_set ?_ GE1031.out | refine below_set ?_ GE1032.out) | exact HB.out)) hb); have n3_ := Aside0.mk (hbox); have n4_ := Aside0.mk ((by rw [hg]; exact (below_size (by repeat (first | (with_reducible first | exact HB.out | apply ba_ | apply bn_ | apply bd_ | refine below_set ?_ GE1031.out | refine below_set ?_ GE1032.out) | exact HB.out))) : w.heap.size ≤ gb1033)); have n5_ := n4_; have n6_ := Aside0.mk (nl_ BK1031.out hg); have n7_ := Aside0.mk (n6_.out.symm); have n8_ := Aside0.mk (nl_ BK1032.out hg); have n9_ := Aside0.mk (n8_.out.symm); clear BK1031 BK1032 HB; have BK1031 := n0_; have BK1032 := n1_; have HB := n2_; have BK1033 := n3_; have GW1033 := n4_; have GE1033 := n5_; have NB1031_1033 := n6_; have NB1033_1031 := n7_; have NB1032_1033 := n8_; have NB1033_1032 := n9_; clear n0_ n1_ n2_ n3_ n4_ n5_ n6_ n7_ n8_ n9_; clear hb hbox hg; have hnb39 := NB1031_1032.out; have hnc39 := NB1032_1031.out; have hnb40 := NB1031_1033.out; have hnc40 := NB1033_1031.out; obtain ⟨hcz41_0, hcz41_1, hcz41_2, hcz41_3, hcz41_4, hfz41_0, hfz41_1, hfz41_2, hfz41_3, hfz41_4⟩ := bc5_ BK1031.out) | ((with_reducible refine gate_callee (f := 114) rfl ?_); refine goesL_ (some 8) rfl rfl Try.func114 (by kernel_rfl) rfl #[.agg #[.int .i64 a0_0, .slice A0_1 l0_1.length c0_1, .int .i64 a0_2, .int .i64 a0_3, .slice A0_4 l0_4.length c0_4]] rfl (by (try simp only [mp_]); first | done | rfl | (simp only [List.length_drop, List.length_take]; rfl)) ?_; (with_reducible refine (impl_copyGroup.calls k a0_0 _ _ l0_1 a0_2 a0_3 _ _ l0_4 t1034 t1035 t1038 t1039 t1040 _ ?side1 ?side2 ?side3 ?side4 A3.out).mono ?_); (case side1 => repeat (first | exact (Kd.C_below HR0_1.out HB.out) | (with_reducible first | refine ca_ ?_ _ | refine cn_ ?_ _ | refine cd_ ?_))); (case side2 => exact HC0_1.out); (case side3 => repeat (first | exact (Kd.C_below HR0_4.out HB.out) | (with_reducible first | refine ca_ ?_ _ | refine cn_ ?_ _ | refine cd_ ?_))); (case side4 => exact HC0_4.out); rintro e w42 ⟨v1036, v1041, rfl, ho0, ho1, hb⟩; refine ⟨_, rfl, ?_⟩; have n0_ := Aside0.mk (Kd.R_lower ho0 (below_size (by repeat (first | (with_reducible first | exact HB.out | apply ba_ | apply bn_ | apply bd_ | refine below_set ?_ GE1031.out | refine below_set ?_ GE1032.out | refine below_set ?_ GE1033.out) | exact HB.out)))); have n1_ := Aside0.mk (Kd.S_lower (Kd.S_newB ho1 (g := gb1032) (o := .cells #[.slice A1_0 l1_0.length c1_0, .int .i64 a1_1, .int .i64 a1_2, .string a1_3] 44 (0, 0)) (pb_ BK1032.out)) (below_size (by repeat (first | (with_reducible first | exact HB.out | apply ba_ | apply bn_ | apply bd_ | refine below_set ?_ GE1031.out | refine below_set ?_ GE1032.out | refine below_set ?_ GE1033.out) | exact HB.out)))); have n2_ := Aside0.mk (bb_ BK1031.out hb); have n3_ := Aside0.mk (bb_ BK1032.out hb); have n4_ := Aside0.mk (bb_ BK1033.out hb); have n5_ := Aside0.mk (below_step (by repeat (first | (with_reducible first | exact HB.out | apply ba_ | apply bn_ | apply bd_ | refine below_set ?_ GE1031.out | refine below_set ?_ GE1032.out | refine below_set ?_ GE1033.out) | exact HB.out)) hb); clear BK1031 BK1032 BK1033 HB; have HO1037 := n0_; have HO1042 := n1_; have BK1031 := n2_; have BK1032 := n3_; have BK1033 := n4_; have HB := n5_; clear n0_ n1_ n2_ n3_ n4_ n5_; (try clear hb); (try clear hb2); (try clear hk); (try clear hi); (try clear ho0); (try clear ho1)) | ((with_reducible refine gate_dst (N := 5) rfl ?_); refine box_event ?hg (N := 5) ?hd (cs := #[.int .i64 0, .slice none 0 0, .int .i64 0, .int .i64 0, .slice none 0 0]) (t := 75) ?hr ?_; (case hd => rfl); (case hg => rfl); (case hr => first | (go_simp; done) | (go_simp; rfl)); intro gb1043 hg w43 hbox hb; have n0_ := Aside0.mk (Kd.R_below (rp_ HO1037.out) hb); have n1_ := Aside0.mk (Kd.S_below (sp_ HO1042.out) hb); have n2_ := Aside0.mk (bb_ BK1031.out hb); have n3_ := Aside0.mk (bb_ BK1032.out hb); have n4_ := Aside0.mk (bb_ BK1033.out hb); have n5_ := Aside0.mk (below_step (by repeat (first | (with_reducible first | exact HB.out | apply ba_ | apply bn_ | apply bd_ | refine below_set ?_ GE1031.out | refine below_set ?_ GE1032.out | refine below_set ?_ GE1033.out) | exact HB.out)) hb); have n6_ := Aside0.mk (hbox); have n7_ := Aside0.mk ((by rw [hg]; exact (below_size (by repeat (first | (with_reducible first | exact HB.out | apply ba_ | apply bn_ | apply bd_ | refine below_set ?_ GE1031.out | refine below_set ?_ GE1032.out | refine below_set ?_ GE1033.out) | exact HB.out))) : w.heap.size ≤ gb1043)); have n8_ := n7_; have n9_ := Aside0.mk (nl_ BK1031.out hg); have n10_ := Aside0.mk (n9_.out.symm); have n11_ := Aside0.mk (nl_ BK1032.out hg); have n12_ := Aside0.mk (n11_.out.symm); have n13_ := Aside0.mk (nl_ BK1033.out hg); have n14_ := Aside0.mk (n13_.out.symm); clear HO1037 HO1042 BK1031 BK1032 BK1033 HB; have HO1037 := n0_; have HO1042 := n1_; have BK1031 := n2_; have BK1032 := n3_; have BK1033 := n4_; have HB := n5_; have BK1043 := n6_; have GW1043 := n7_; have GE1043 := n8_; have NB1031_1043 := n9_; have NB1043_1031 := n10_; have NB1032_1043 := n11_; have NB1043_1032 := n12_; have NB1033_1043 := n13_; have NB1043_1033 := n14_; clear n0_ n1_ n2_ n3_ n4_ n5_ n6_ n7_ n8_ n9_ n10_ n11_ n12_ n13_ n14_; clear hb hbox hg; have hnb44 := NB1043_1031.out; have hnc44 := NB1031_1043.out; have hnb45 := NB1043_1032.out; have hnc45 := NB1032_1043.out; have hnb46 := NB1043_1033.out; have hnc46 := NB1033_1043.out; obtain ⟨hcz47_0, hcz47_1, hcz47_2, hcz47_3, hcz47_4, hfz47_0, hfz47_1, hfz47_2, hfz47_3, hfz47_4⟩ := bc5_ BK1043.out; obtain ⟨Ao48, co48, eo48⟩ := Kd.R_slice HO1037.out; subst eo48; obtain ⟨Ao49, co49, eo49⟩ := Kd.S_slice HO1042.out; subst eo49; obtain ⟨hcz50_0, hcz50_1, hcz50_2, hcz50_3, hcz50_4, hfz50_0, hfz50_1, hfz50_2, hfz50_3, hfz50_4⟩ := bc5_ BK1031.out; have hnb51 := NB1032_1033.out; have hnc51 := NB1033_1032.out; obtain ⟨hcz52_0, hcz52_1, hcz52_2, hcz52_3, hfz52_0, hfz52_1, hfz52_2, hfz52_3⟩ := bc4_ BK1032.out) | ((with_reducible refine gate_callee (f := 115) rfl ?_); refine goesL_ (some 13) rfl rfl Try.func115 (by kernel_rfl) rfl #[.slice A0_4 l0_4.length c0_4, .slice A1_0 l1_0.length c1_0] rfl (by (try simp only [mp_]); first | done | rfl | (simp only [List.length_drop, List.length_take]; rfl)) ?_; (with_reducible refine (impl_labelsAt.calls k _ _ l0_4 _ _ l1_0 t1044 _ ?side1 ?side2 ?side3 ?side4 A4.out).mono ?_); (case side1 => exact Kd.C_below HR0_4.out (by repeat (first | (with_reducible first | exact HB.out | apply ba_ | apply bn_ | apply bd_ | refine below_set ?_ GE1031.out | refine below_set ?_ GE1032.out | refine below_set ?_ GE1033.out | refine below_set ?_ GE1043.out) | exact HB.out))); (case side2 => exact HC0_4.out); (case side3 => exact Kd.C_below HR1_0.out (by repeat (first | (with_reducible first | exact HB.out | apply ba_ | apply bn_ | apply bd_ | refine below_set ?_ GE1031.out | refine below_set ?_ GE1032.out | refine below_set ?_ GE1033.out | refine below_set ?_ GE1043.out) | exact HB.out))); (case side4 => exact HC1_0.out); rintro e w53 ⟨rfl, hb⟩; refine ⟨_, rfl, ?_⟩; have n0_ := Aside0.mk (Kd.R_below (by (with_reducible repeat (first | apply Kd.R_alloc | apply Kd.R_drewN | apply Kd.R_drew)); exact (Kd.R_mono (Kd.R_far (p := ⟨gb1043, 4, none⟩) (Kd.R_far (p := ⟨gb1043, 3, none⟩) (Kd.R_far (p := ⟨gb1043, 2, none⟩) (Kd.R_far (p := ⟨gb1043, 1, none⟩) (Kd.R_far (p := ⟨gb1043, 0, none⟩) (Kd.R_types HO1037.out BK1043.out (by decide)) (fun _ hk => hk.2) (.int .i64 t1034)) (fun _ hk => hk.2) (.slice Ao48 t1035.length co48)) (fun _ hk => hk.2) (.int .i64 t1038)) (fun _ hk => hk.2) (.int .i64 t1039)) (fun _ hk => hk.2) (.slice Ao49 t1040.length co49)) (fun _ h_ => h_.1))) hb); have n1_ := Aside0.mk (Kd.S_below (by (with_reducible repeat (first | apply Kd.S_alloc | apply Kd.S_drewN | apply Kd.S_drew)); exact (Kd.S_mono (Kd.S_far (p := ⟨gb1043, 4, none⟩) (Kd.S_far (p := ⟨gb1043, 3, none⟩) (Kd.S_far (p := ⟨gb1043, 2, none⟩) (Kd.S_far (p := ⟨gb1043, 1, none⟩) (Kd.S_far (p := ⟨gb1043, 0, none⟩) (Kd.S_types HO1042.out BK1043.out (by decide)) (fun _ hk => hk.2) (.int .i64 t1034)) (fun _ hk => hk.2) (.slice Ao48 t1035.length co48)) (fun _ hk => hk.2) (.int .i64 t1038)) (fun _ hk => hk.2) (.int .i64 t1039)) (fun _ hk => hk.2) (.slice Ao49 t1040.length co49)) (fun _ h_ => h_.1))) hb); have n2_ := Aside0.mk (blk_below (g := gb1031) (o := .cells #[.int .i64 a0_0, .slice A0_1 l0_1.length c0_1, .int .i64 a0_2, .int .i64 a0_3, .slice A0_4 l0_4.length c0_4] 75 (0, 0)) (by (with_reducible repeat (first | refine kn_ ?_ _ | refine kd_ ?_ | refine ka_ ?_ _)); refine blk_far ?_ NB1031_1043.out _; (with_reducible repeat (first | refine kn_ ?_ _ | refine kd_ ?_ | refine ka_ ?_ _)); refine blk_far ?_ NB1031_1043.out _; (with_reducible repeat (first | refine kn_ ?_ _ | refine kd_ ?_ | refine ka_ ?_ _)); refine blk_far ?_ NB1031_1043.out _; (with_reducible repeat (first | refine kn_ ?_ _ | refine kd_ ?_ | refine ka_ ?_ _)); refine blk_far ?_ NB1031_1043.out _; (with_reducible repeat (first | refine kn_ ?_ _ | refine kd_ ?_ | refine ka_ ?_ _)); refine blk_far ?_ NB1031_1043.out _; (with_reducible repeat (first | refine kn_ ?_ _ | refine kd_ ?_ | refine ka_ ?_ _)); exact BK1031.out) hb); have n3_ := Aside0.mk (blk_below (g := gb1032) (o := .cells #[.slice A1_0 l1_0.length c1_0, .int .i64 a1_1, .int .i64 a1_2, .string a1_3] 44 (0, 0)) (by (with_reducible repeat (first | refine kn_ ?_ _ | refine kd_ ?_ | refine ka_ ?_ _)); refine blk_far ?_ NB1032_1043.out _; (with_reducible repeat (first | refine kn_ ?_ _ | refine kd_ ?_ | refine ka_ ?_ _)); refine blk_far ?_ NB1032_1043.out _; (with_reducible repeat (first | refine kn_ ?_ _ | refine kd_ ?_ | refine ka_ ?_ _)); refine blk_far ?_ NB1032_1043.out _; (with_reducible repeat (first | refine kn_ ?_ _ | refine kd_ ?_ | refine ka_ ?_ _)); refine blk_far ?_ NB1032_1043.out _; (with_reducible repeat (first | refine kn_ ?_ _ | refine kd_ ?_ | refine ka_ ?_ _)); refine blk_far ?_ NB1032_1043.out _; (with_reducible repeat (first | refine kn_ ?_ _ | refine kd_ ?_ | refine ka_ ?_ _)); exact BK1032.out) hb); have n4_ := Aside0.mk (blk_below (g := gb1033) (o := .cells #[.int .i64 0, .slice none 0 0, .int .i64 0, .int .i64 0, .slice none 0 0] 75 (0, 0)) (by (with_reducible repeat (first | refine kn_ ?_ _ | refine kd_ ?_ | refine ka_ ?_ _)); refine blk_far ?_ NB1033_1043.out _; (with_reducible repeat (first | refine kn_ ?_ _ | refine kd_ ?_ | refine ka_ ?_ _)); refine blk_far ?_ NB1033_1043.out _; (with_reducible repeat (first | refine kn_ ?_ _ | refine kd_ ?_ | refine ka_ ?_ _)); refine blk_far ?_ NB1033_1043.out _; (with_reducible repeat (first | refine kn_ ?_ _ | refine kd_ ?_ | refine ka_ ?_ _)); refine blk_far ?_ NB1033_1043.out _; (with_reducible repeat (first | refine kn_ ?_ _ | refine kd_ ?_ | refine ka_ ?_ _)); refine blk_far ?_ NB1033_1043.out _; (with_reducible repeat (first | refine kn_ ?_ _ | refine kd_ ?_ | refine ka_ ?_ _)); exact BK1033.out) hb); have n5_ := Aside0.mk (blk_below (g := gb1043) (o := .cells #[.int .i64 t1034, .slice Ao48 t1035.length co48, .int .i64 t1038, .int .i64 t1039, .slice Ao49 t1040.length co49] 75 (0, 0)) (by (with_reducible repeat (first | refine kn_ ?_ _ | refine kd_ ?_ | refine ka_ ?_ _)); refine blk_put (cs := #[.int .i64 t1034, .slice Ao48 t1035.length co48, .int .i64 t1038, .int .i64 t1039, .slice none 0 0]) ?_ 4 _ rfl; (with_reducible repeat (first | refine kn_ ?_ _ | refine kd_ ?_ | refine ka_ ?_ _)); refine blk_put (cs := #[.int .i64 t1034, .slice Ao48 t1035.length co48, .int .i64 t1038, .int .i64 0, .slice none 0 0]) ?_ 3 _ rfl; (with_reducible repeat (first | refine kn_ ?_ _ | refine kd_ ?_ | refine ka_ ?_ _)); refine blk_put (cs := #[.int .i64 t1034, .slice Ao48 t1035.length co48, .int .i64 0, .int .i64 0, .slice none 0 0]) ?_ 2 _ rfl; (with_reducible repeat (first | refine kn_ ?_ _ | refine kd_ ?_ | refine ka_ ?_ _)); refine blk_put (cs := #[.int .i64 t1034, .slice none 0 0, .int .i64 0, .int .i64 0, .slice none 0 0]) ?_ 1 _ rfl; (with_reducible repeat (first | refine kn_ ?_ _ | refine kd_ ?_ | refine ka_ ?_ _)); refine blk_put (cs := #[.int .i64 0, .slice none 0 0, .int .i64 0, .int .i64 0, .slice none 0 0]) ?_ 0 _ rfl; (with_reducible repeat (first | refine kn_ ?_ _ | refine kd_ ?_ | refine ka_ ?_ _)); exact BK1043.out) hb); have n6_ := Aside0.mk (below_step (by repeat (first | (with_reducible first | exact HB.out | apply ba_ | apply bn_ | apply bd_ | refine below_set ?_ GE1031.out | refine below_set ?_ GE1032.out | refine below_set ?_ GE1033.out | refine below_set ?_ GE1043.out) | exact HB.out)) hb); clear HO1037 HO1042 BK1031 BK1032 BK1033 BK1043 HB; have HO1037 := n0_; have HO1042 := n1_; have BK1031 := n2_; have BK1032 := n3_; have BK1033 := n4_; have BK1043 := n5_; have HB := n6_; clear n0_ n1_ n2_ n3_ n4_ n5_ n6_; (try clear hb); (try clear hb2); (try clear hk); (try clear hi); obtain ⟨hcz54_0, hcz54_1, hcz54_2, hcz54_3, hcz54_4, hfz54_0, hfz54_1, hfz54_2, hfz54_3, hfz54_4⟩ := bc5_ BK1031.out; obtain ⟨hcz55_0, hcz55_1, hcz55_2, hcz55_3, hfz55_0, hfz55_1, hfz55_2, hfz55_3⟩ := bc4_ BK1032.out) | ((with_reducible refine gate_callee (f := 116) rfl ?_); refine goesL_ (some 25) rfl rfl Try.func116 (by kernel_rfl) rfl #[.slice A0_4 l0_4.length c0_4, .agg #[.slice A1_0 l1_0.length c1_0, .int .i64 a1_1, .int .i64 a1_2, .string a1_3]] rfl (by (try simp only [mp_]); first | done | rfl | (simp only [List.length_drop, List.length_take]; rfl)) ?_; (with_reducible refine (impl_inserted.calls k _ _ l0_4 _ _ l1_0 a1_1 a1_2 a1_3 t1052 _ ?side1 ?side2 ?side3 ?side4 A35.out).mono ?_); (case side1 => repeat (first | exact (Kd.C_below HR0_4.out HB.out) | (with_reducible first | refine ca_ ?_ _ | refine cn_ ?_ _ | refine cd_ ?_))); (case side2 => exact HC0_4.out); (case side3 => repeat (first | exact (Kd.C_below HR1_0.out HB.out) | (with_reducible first | refine ca_ ?_ _ | refine cn_ ?_ _ | refine cd_ ?_))); (case side4 => exact HC1_0.out); rintro e w56 ⟨v1053, rfl, ho0, hb⟩; refine ⟨_, rfl, ?_⟩; have n0_ := Aside0.mk (Kd.R_below (rp_ HO1037.out) hb); have n1_ := Aside0.mk (Kd.S_elder' (sp_ HO1042.out) (Kd.S_base ho0) hb); have n2_ := Aside0.mk (Kd.S_lower (Kd.S_newB (Kd.S_new' (Kd.S_new' ho0 (Kd.R_lt (rp_ HO1037.out))) (Kd.S_lt (sp_ HO1042.out))) (g := gb1032) (o := .cells #[.slice A1_0 l1_0.length c1_0, .int .i64 a1_1, .int .i64 a1_2, .string a1_3] 44 (0, 0)) (pb_ BK1032.out)) (below_size (by repeat (first | (with_reducible first | exact HB.out | apply ba_ | apply bn_ | apply bd_ | refine below_set ?_ GE1031.out | refine below_set ?_ GE1032.out | refine below_set ?_ GE1033.out | refine below_set ?_ GE1043.out) | exact HB.out)))); have n3_ := Aside0.mk (bb_ BK1031.out hb); have n4_ := Aside0.mk (bb_ BK1032.out hb); have n5_ := Aside0.mk (bb_ BK1033.out hb); have n6_ := Aside0.mk (bb_ BK1043.out hb); have n7_ := Aside0.mk (below_step (by repeat (first | (with_reducible first | exact HB.out | apply ba_ | apply bn_ | apply bd_ | refine below_set ?_ GE1031.out | refine below_set ?_ GE1032.out | refine below_set ?_ GE1033.out | refine below_set ?_ GE1043.out) | exact HB.out)) hb); clear HO1037 HO1042 BK1031 BK1032 BK1033 BK1043 HB; have HO1037 := n0_; have HO1042 := n1_; have HO1054 := n2_; have BK1031 := n3_; have BK1032 := n4_; have BK1033 := n5_; have BK1043 := n6_; have HB := n7_; clear n0_ n1_ n2_ n3_ n4_ n5_ n6_ n7_; (try clear hb); (try clear hb2); (try clear hk); (try clear hi); (try clear ho0); obtain ⟨Ao57, co57, eo57⟩ := Kd.S_slice HO1054.out; subst eo57; obtain ⟨hcz58_0, hcz58_1, hcz58_2, hcz58_3, hcz58_4, hfz58_0, hfz58_1, hfz58_2, hfz58_3, hfz58_4⟩ := bc5_ BK1043.out; obtain ⟨hcz59_0, hcz59_1, hcz59_2, hcz59_3, hcz59_4, hfz59_0, hfz59_1, hfz59_2, hfz59_3, hfz59_4⟩ := bc5_ BK1033.out))
 refine bodyPost_ret (results_cell_row rfl _ _ gb1033 75 #[.int .i64 t1034, .slice Ao48 t1035.length co48, .int .i64 t1038, .int .i64 t1039, .slice Ao57 t1052.length co57] (0, 0) _ rfl (by (with_reducible repeat (first | refine kn_ ?_ _ | refine kd_ ?_ | refine ka_ ?_ _)); refine blk_put (cs := #[.int .i64 t1034, .slice Ao48 t1035.length co48, .int .i64 t1038, .int .i64 t1039, .slice none 0 0]) ?_ 4 _ rfl; (with_reducible repeat (first | refine kn_ ?_ _ | refine kd_ ?_ | refine ka_ ?_ _)); refine blk_put (cs := #[.int .i64 t1034, .slice Ao48 t1035.length co48, .int .i64 t1038, .int .i64 0, .slice none 0 0]) ?_ 3 _ rfl; (with_reducible repeat (first | refine kn_ ?_ _ | refine kd_ ?_ | refine ka_ ?_ _)); refine blk_put (cs := #[.int .i64 t1034, .slice Ao48 t1035.length co48, .int .i64 0, .int .i64 0, .slice none 0 0]) ?_ 2 _ rfl; (with_reducible repeat (first | refine kn_ ?_ _ | refine kd_ ?_ | refine ka_ ?_ _)); refine blk_put (cs := #[.int .i64 t1034, .slice none 0 0, .int .i64 0, .int .i64 0, .slice none 0 0]) ?_ 1 _ rfl; (with_reducible repeat (first | refine kn_ ?_ _ | refine kd_ ?_ | refine ka_ ?_ _)); refine blk_put (cs := #[.int .i64 0, .slice none 0 0, .int .i64 0, .int .i64 0, .slice none 0 0]) ?_ 0 _ rfl; (with_reducible repeat (first | refine kn_ ?_ _ | refine kd_ ?_ | refine ka_ ?_ _)); refine blk_far ?_ NB1033_1043.out _; (with_reducible repeat (first | refine kn_ ?_ _ | refine kd_ ?_ | refine ka_ ?_ _)); exact BK1033.out) Try.underlying75 rfl (by kernel_rfl)) rfl ?_
 exact ⟨_, _, by first | rfl | (simp [errW_none, errW_some] <;> rfl) | (simp [*, errW_none, errW_some] <;> rfl), by (with_reducible repeat (first | apply Kd.R_alloc | apply Kd.R_drewN | apply Kd.R_drew)); exact Kd.R_mono (Kd.R_far (p := ⟨gb1033, 4, none⟩) (Kd.R_far (p := ⟨gb1033, 3, none⟩) (Kd.R_far (p := ⟨gb1033, 2, none⟩) (Kd.R_far (p := ⟨gb1033, 1, none⟩) (Kd.R_far (p := ⟨gb1033, 0, none⟩) (Kd.R_far (p := ⟨gb1043, 4, none⟩) (Kd.R_types (Kd.R_types HO1037.out BK1043.out (by decide)) BK1033.out (by decide)) (fun _ hk => hk.1.2) (.slice Ao57 t1052.length co57)) (fun _ hk => hk.2) (.int .i64 t1034)) (fun _ hk => hk.2) (.slice Ao48 t1035.length co48)) (fun _ hk => hk.2) (.int .i64 t1038)) (fun _ hk => hk.2) (.int .i64 t1039)) (fun _ hk => hk.2) (.slice Ao57 t1052.length co57)) (fun _ hk => trivial), by (with_reducible repeat (first | apply Kd.S_alloc | apply Kd.S_drewN | apply Kd.S_drew)); exact Kd.S_mono (Kd.S_far (p := ⟨gb1033, 4, none⟩) (Kd.S_far (p := ⟨gb1033, 3, none⟩) (Kd.S_far (p := ⟨gb1033, 2, none⟩) (Kd.S_far (p := ⟨gb1033, 1, none⟩) (Kd.S_far (p := ⟨gb1033, 0, none⟩) (Kd.S_far (p := ⟨gb1043, 4, none⟩) (Kd.S_types (Kd.S_types HO1054.out BK1043.out (by decide)) BK1033.out (by decide)) (fun _ hk => hk.1.2) (.slice Ao57 t1052.length co57)) (fun _ hk => hk.2) (.int .i64 t1034)) (fun _ hk => hk.2) (.slice Ao48 t1035.length co48)) (fun _ hk => hk.2) (.int .i64 t1038)) (fun _ hk => hk.2) (.int .i64 t1039)) (fun _ hk => hk.2) (.slice Ao57 t1052.length co57)) (fun _ hk => hk.1.1.1.1.2), by repeat (first | (with_reducible first | exact HB.out | apply ba_ | apply bn_ | apply bd_ | refine below_set ?_ GE1031.out | refine below_set ?_ GE1032.out | refine below_set ?_ GE1033.out | refine below_set ?_ GE1043.out) | exact HB.out)⟩
def laws_markAlarmS.l0 : Nat → List S44 → Int → Int → Option (Int × (List S44))
 | 0, _, _, _ => none
 | k + 1, x0, x1, x5 => if x5 < (x0.length : Int) then (if 0 ≤ x5 then ((laws_markLabelS.f k (rd_T44 x0 x5).f0 x1).bind fun b0 => ((laws_markText.f k (wrap64 ((wrap64 (b0.1 + 1)) + 1))).bind fun b3 => (laws_markAlarmS.l0 k (x0.set x5.toNat (⟨b0.2, b0.1, wrap64 (b0.1 + 1), b3⟩ : S44)) (wrap64 ((wrap64 ((wrap64 (b0.1 + 1)) + 1)) + 1)) (wrap64 (x5 + 1))))) else (none)) else (some (x1, x0))
def laws_markAlarmS.f (k : Nat) (l0 : List S44) (a1 : Int) : Option (Int × (List S44)) := laws_markAlarmS.l0 k l0 a1 0
theorem laws_markAlarmS.mono_l : ∀ k, (∀ y0 y1 y2, LeO (laws_markAlarmS.l0 k y0 y1 y2) (laws_markAlarmS.l0 (k + 1) y0 y1 y2))
 | 0 => fun _ _ _ r h => by simp [laws_markAlarmS.l0] at h
 | k + 1 => by
  have ih0 := laws_markAlarmS.mono_l k
  intro y0 y1 y2
  unfold laws_markAlarmS.l0
  repeat' first
  | (with_reducible exact ih0 _ _ _)
  | (with_reducible exact laws_markLabelS.mono _ _ _)
  | (with_reducible exact laws_markText.mono _ _)
  | (with_reducible exact LeO.refl _)
  | (with_reducible exact LeO.none _)
  | (with_reducible refine LeO.ite ?_ ?_)
  | (with_reducible refine LeO.bind ?_ (fun _ => ?_))
  | exact ih0 _ _ _
  | exact laws_markLabelS.mono _ _ _
  | exact laws_markText.mono _ _
theorem laws_markAlarmS.mono : ∀ a0 a1 k, LeO (laws_markAlarmS.f k a0 a1) (laws_markAlarmS.f (k + 1) a0 a1) := by
 intro a0 a1 k
 have ih0 := laws_markAlarmS.mono_l k
 unfold laws_markAlarmS.f
 repeat' first
   | (with_reducible exact ih0 _ _ _)
   | (with_reducible exact laws_markLabelS.mono _ _ _)
   | (with_reducible exact laws_markText.mono _ _)
   | (with_reducible exact LeO.refl _)
   | (with_reducible exact LeO.none _)
   | (with_reducible refine LeO.ite ?_ ?_)
   | (with_reducible refine LeO.bind ?_ (fun _ => ?_))
   | exact ih0 _ _ _
   | exact laws_markLabelS.mono _ _ _
   | exact laws_markText.mono _ _
theorem laws_markAlarmS.calls (k : Nat) (P0_ : Nat → Prop) (u9000_ : Value) (l0 : List S44) (a1 : Int) (r1 : Int) (r2 : List S44) (w0 w : World) (hB : Below w0.heap.size w0 w) (ho0 : Kd.S k44 44 w w0.heap.size P0_ u9000_ l0) (h : laws_markAlarmS.f k l0 a1 = some (r1, r2)) :
  Calls Try.prog 39 #[u9000_, .int .i64 a1] w fun e w' => e = .returned (.int .i64 r1) ∧ Kd.S k44 44 w' w0.heap.size P0_ u9000_ r2 ∧ Below w0.heap.size w0 w' ∧ Kept w w' (fun k_ => P0_ k_) := by
 have HO := Aside0.mk ho0
 have HK := Aside0.mk (Kept.refl w (fun k_ => P0_ k_))
 have HB := Aside0.mk hB
 clear hB ho0
 have H' := Aside0.mk (show laws_markAlarmS.l0 k l0 a1 0 = some (r1, r2) from h)
 clear h
 go_enter Try.func39, Try.ntmps39
 go_wp2
 go_loopg [1, 5] k (fun kq v1 v5 w' => ∃ (x0_1 : List S44) (x1_1 : Int) (x5_1 : Int), v1 = .int .i64 x1_1 ∧ v5 = .int .i64 x5_1 ∧ Aside0 (laws_markAlarmS.l0 kq x0_1 x1_1 x5_1 = some (r1, r2)) ∧ Aside0 (kq ≤ k) ∧ Aside0 (Kd.S k44 44 w' w0.heap.size P0_ u9000_ x0_1) ∧ Aside0 (Kept w w' (fun k_ => P0_ k_)) ∧ Aside0 (Below w0.heap.size w0 w'))
 case atStart => exact ⟨l0, a1, 0, (by first | rfl | (simp; done) | (simp [*]; done)), (by first | rfl | (simp; done) | (simp [*]; done)), H', ⟨Nat.le_refl _⟩, ⟨(sp_ HO.out)⟩, ⟨(by repeat (first | (with_reducible first | exact HK.out | apply Kept.alloc | apply Kept.drewN | apply Kept.drew) | exact HK.out))⟩, ⟨(by repeat (first | (with_reducible first | exact HB.out | apply ba_ | apply bn_ | apply bd_) | exact HB.out))⟩⟩
 case round =>
  clear H'
  obtain ⟨x0_1, x1_1, x5_1, rfl, rfl, HA, HK1, HO, HK, HB⟩ := hrel
  cases gk with
  | zero => exact absurd HA.out (by simp [laws_markAlarmS.l0])
  | succ k1 =>
   have H := HA.out
   clear HA
   simp only [laws_markAlarmS.l0] at H
   by_cases c3 : x5_1 < (x0_1.length : Int)
   ·
    rw [if_pos c3] at H
    have c3b0 := decide_eq_true c3
    by_cases c4 : 0 ≤ x5_1
    ·
     rw [if_pos c4] at H
     have c4b0 := decide_eq_true c4
     obtain ⟨⟨t0, s0⟩, A0_, H⟩ := Option.bind_eq_some_iff.mp H
     have A0 := Aside0.mk A0_; clear A0_; dsimp only at H A0
     obtain ⟨s3, A3_, H⟩ := Option.bind_eq_some_iff.mp H
     have A3 := Aside0.mk A3_; clear A3_; (try dsimp only at H A3)
     have H' := Aside0.mk H
     clear H
     obtain ⟨Ao, co, eo⟩ := Kd.S_slice HO.out
     subst eo
     obtain ⟨go, co_, eo_, gb_, gl_, cl_, HG_⟩ := Kd.S_form HO.out (by omega)
     (first | cases eo_ | (injection eo_ with ea_ en_ ec_; (first | subst ea_ | (injection ea_ with ea_; subst ea_)); subst ec_; clear en_))
     have GB := Aside0.mk gb_
     clear gb_ gl_ HG_
     have p5 : (0 ≤ (x5_1 : Int)) = True := eq_true c4
     have q5 : ((x5_1 : Int) < (x0_1.length : Int)) = True := eq_true c3
     have HO1 := Aside0.mk (show Kd.S k44 44 wr w0.heap.size P0_ (.slice (some ⟨go, 0, none⟩) x0_1.length co) (x0_1.set (x5_1 : Int).toNat (rd_T44 x0_1 x5_1)) from S_begin HO.out z44 x5_1 c4 c3)
     clear HO
     have HO := HO1
     clear HO1
     obtain ⟨oki1, ce1, hM1, hcc1, hfr1, hoki1, hin1, hput1⟩ := S_hand HO.out c4 c3
     obtain ⟨ve1_0, rfl, ge1_0⟩ := k44_openM hM1
     have hx1_0 : wr.cell? ⟨go, (x5_1 : Int).toNat * 4, none⟩ = some (ve1_0) := hcc1 0 _ rfl
     have hf1_0 : wr.frozen? ⟨go, (x5_1 : Int).toNat * 4, none⟩ = false := hfr1 0
     have hx1_1 : wr.cell? ⟨go, (x5_1 : Int).toNat * 4 + 1, none⟩ = some (.int .i64 ((rd_T44 x0_1 x5_1).f1)) := hcc1 1 _ rfl
     have hf1_1 : wr.frozen? ⟨go, (x5_1 : Int).toNat * 4 + 1, none⟩ = false := hfr1 1
     have hx1_2 : wr.cell? ⟨go, (x5_1 : Int).toNat * 4 + 2, none⟩ = some (.int .i64 ((rd_T44 x0_1 x5_1).f2)) := hcc1 2 _ rfl
     have hf1_2 : wr.frozen? ⟨go, (x5_1 : Int).toNat * 4 + 2, none⟩ = false := hfr1 2
     have hx1_3 : wr.cell? ⟨go, (x5_1 : Int).toNat * 4 + 3, none⟩ = some (.string ((rd_T44 x0_1 x5_1).f3)) := hcc1 3 _ rfl
     have hf1_3 : wr.frozen? ⟨go, (x5_1 : Int).toNat * 4 + 3, none⟩ = false := hfr1 3
     clear hcc1 hfr1 hM1
     go_wp2_with (first | ((with_reducible refine gate_callee (f := 99) rfl ?_); refine goesL_ (some 18) rfl rfl Try.func99 (by kernel_rfl) rfl #[ve1_0, .int .i64 x1_1] rfl (by (try simp only [mp_]); first | done | rfl | (simp only [List.length_drop, List.length_take]; rfl)) ?_; (with_reducible refine (laws_markLabelS.calls k1 oki1 ve1_0 ((rd_T44 x0_1 x5_1).f0) x1_1 t0 s0 w0 _ (by repeat (first | (with_reducible first | exact HB.out | apply ba_ | apply bn_ | apply bd_) | exact HB.out)) ge1_0 A0.out).mono ?_); rintro e wm1 ⟨rfl, hy, hb, hkp⟩; refine ⟨_, rfl, ?_⟩; have n0_ := Aside0.mk (hin1 wm1 (⟨s0, ((rd_T44 x0_1 x5_1).f1), ((rd_T44 x0_1 x5_1).f2), ((rd_T44 x0_1 x5_1).f3)⟩ : S44) hkp (k44_mkM _ _ _ (⟨s0, ((rd_T44 x0_1 x5_1).f1), ((rd_T44 x0_1 x5_1).f2), ((rd_T44 x0_1 x5_1).f3)⟩ : S44) (Kd.R_reok rfl hy (fun k_ e_ => ge1_0.1 k_ e_)))); have n1_ := Aside0.mk (Kept.then_ (S := (fun k_ => P0_ k_)) (by repeat (first | (with_reducible first | exact HK.out | apply Kept.alloc | apply Kept.drewN | apply Kept.drew) | exact HK.out)) hkp (fun k_ h_ => .inl (hoki1 k_ h_).1)); have n2_ := Aside0.mk hb; clear HO HK HB; have HO := n0_; have HK := n1_; have HB := n2_; clear n0_ n1_ n2_; obtain ⟨oki2, ce2, hM2, hcc2, hfr2, hoki2, hin2, hput2⟩ := S_hand HO.out c4 c3; obtain ⟨ve2_0, rfl, ge2_0⟩ := k44_openM hM2; have hx2_0 : wm1.cell? ⟨go, (x5_1 : Int).toNat * 4, none⟩ = some (ve2_0) := hcc2 0 _ rfl; have hf2_0 : wm1.frozen? ⟨go, (x5_1 : Int).toNat * 4, none⟩ = false := hfr2 0; have hx2_1 : wm1.cell? ⟨go, (x5_1 : Int).toNat * 4 + 1, none⟩ = some (.int .i64 ((rd_T44 x0_1 x5_1).f1)) := hcc2 1 _ rfl; have hf2_1 : wm1.frozen? ⟨go, (x5_1 : Int).toNat * 4 + 1, none⟩ = false := hfr2 1; have hx2_2 : wm1.cell? ⟨go, (x5_1 : Int).toNat * 4 + 2, none⟩ = some (.int .i64 ((rd_T44 x0_1 x5_1).f2)) := hcc2 2 _ rfl; have hf2_2 : wm1.frozen? ⟨go, (x5_1 : Int).toNat * 4 + 2, none⟩ = false := hfr2 2; have hx2_3 : wm1.cell? ⟨go, (x5_1 : Int).toNat * 4 + 3, none⟩ = some (.string ((rd_T44 x0_1 x5_1).f3)) := hcc2 3 _ rfl; have hf2_3 : wm1.frozen? ⟨go, (x5_1 : Int).toNat * 4 + 3, none⟩ = false := hfr2 3; clear hcc2 hfr2 hM2) | ((with_reducible refine gate_store (t := 3) (p := 23) rfl ?_); refine store_event (t := 3) (p := 23) (v := ?vo_wm2) (w1 := (wm1.setCell ⟨go, (x5_1 : Int).toNat * 4 + 1, none⟩ (.int .i64 t0))) ?hg ?ho ?hn ?hr ?_; (case ho => rfl); (case hg => rfl); (case hn => rfl); (case hr => first | (go_simp; done) | (go_simp; rfl)); intro wm2 hw; have hs_ := hput2 (.int .i64 t0) 1 (⟨s0, t0, ((rd_T44 x0_1 x5_1).f2), ((rd_T44 x0_1 x5_1).f3)⟩ : S44) rfl (by decide) (k44_mkM _ _ _ (⟨s0, t0, ((rd_T44 x0_1 x5_1).f2), ((rd_T44 x0_1 x5_1).f3)⟩ : S44) ge2_0); have hg : wm1.grownBy wm2 (some go) := (by rw [hw]; exact hs_.2); have n0_ := Aside0.mk (show Kd.S k44 44 wm2 w0.heap.size P0_ (.slice (some ⟨go, 0, none⟩) x0_1.length co) (x0_1.set (x5_1 : Int).toNat (⟨s0, t0, ((rd_T44 x0_1 x5_1).f2), ((rd_T44 x0_1 x5_1).f3)⟩ : S44)) from (by rw [hw]; exact hs_.1)); have n2_ := Aside0.mk (show Below w0.heap.size w0 wm2 from (by rw [hw]; exact below_set (HB.out) GB.out)); have n1_ := Aside0.mk (Kept.of_grown (S := (fun k_ => P0_ k_)) hg (by repeat (first | (with_reducible first | exact HK.out | apply Kept.alloc | apply Kept.drewN | apply Kept.drew) | exact HK.out)) (fun k_ e_ => .inl ((Kd.S_R HO.out).1 k_ e_))); clear hg hw hs_; clear HO HK HB; have HO := n0_; have HK := n1_; have HB := n2_; clear n0_ n1_ n2_; obtain ⟨oki3, ce3, hM3, hcc3, hfr3, hoki3, hin3, hput3⟩ := S_hand HO.out c4 c3; obtain ⟨ve3_0, rfl, ge3_0⟩ := k44_openM hM3; have hx3_0 : wm2.cell? ⟨go, (x5_1 : Int).toNat * 4, none⟩ = some (ve3_0) := hcc3 0 _ rfl; have hf3_0 : wm2.frozen? ⟨go, (x5_1 : Int).toNat * 4, none⟩ = false := hfr3 0; have hx3_1 : wm2.cell? ⟨go, (x5_1 : Int).toNat * 4 + 1, none⟩ = some (.int .i64 t0) := hcc3 1 _ rfl; have hf3_1 : wm2.frozen? ⟨go, (x5_1 : Int).toNat * 4 + 1, none⟩ = false := hfr3 1; have hx3_2 : wm2.cell? ⟨go, (x5_1 : Int).toNat * 4 + 2, none⟩ = some (.int .i64 ((rd_T44 x0_1 x5_1).f2)) := hcc3 2 _ rfl; have hf3_2 : wm2.frozen? ⟨go, (x5_1 : Int).toNat * 4 + 2, none⟩ = false := hfr3 2; have hx3_3 : wm2.cell? ⟨go, (x5_1 : Int).toNat * 4 + 3, none⟩ = some (.string ((rd_T44 x0_1 x5_1).f3)) := hcc3 3 _ rfl; have hf3_3 : wm2.frozen? ⟨go, (x5_1 : Int).toNat * 4 + 3, none⟩ = false := hfr3 3; clear hcc3 hfr3 hM3) | ((with_reducible refine gate_store (t := 3) (p := 30) rfl ?_); refine store_event (t := 3) (p := 30) (v := ?vo_wm3) (w1 := (wm2.setCell ⟨go, (x5_1 : Int).toNat * 4 + 2, none⟩ (.int .i64 (wrap64 (t0 + 1))))) ?hg ?ho ?hn ?hr ?_; (case ho => rfl); (case hg => rfl); (case hn => rfl); (case hr => first | (go_simp; done) | (go_simp; rfl)); intro wm3 hw; have hs_ := hput3 (.int .i64 (wrap64 (t0 + 1))) 2 (⟨s0, t0, wrap64 (t0 + 1), ((rd_T44 x0_1 x5_1).f3)⟩ : S44) rfl (by decide) (k44_mkM _ _ _ (⟨s0, t0, wrap64 (t0 + 1), ((rd_T44 x0_1 x5_1).f3)⟩ : S44) ge3_0); have hg : wm2.grownBy wm3 (some go) := (by rw [hw]; exact hs_.2); have n0_ := Aside0.mk (show Kd.S k44 44 wm3 w0.heap.size P0_ (.slice (some ⟨go, 0, none⟩) x0_1.length co) (x0_1.set (x5_1 : Int).toNat (⟨s0, t0, wrap64 (t0 + 1), ((rd_T44 x0_1 x5_1).f3)⟩ : S44)) from (by rw [hw]; exact hs_.1)); have n2_ := Aside0.mk (show Below w0.heap.size w0 wm3 from (by rw [hw]; exact below_set (HB.out) GB.out)); have n1_ := Aside0.mk (Kept.of_grown (S := (fun k_ => P0_ k_)) hg (by repeat (first | (with_reducible first | exact HK.out | apply Kept.alloc | apply Kept.drewN | apply Kept.drew) | exact HK.out)) (fun k_ e_ => .inl ((Kd.S_R HO.out).1 k_ e_))); clear hg hw hs_; clear HO HK HB; have HO := n0_; have HK := n1_; have HB := n2_; clear n0_ n1_ n2_; obtain ⟨oki4, ce4, hM4, hcc4, hfr4, hoki4, hin4, hput4⟩ := S_hand HO.out c4 c3; obtain ⟨ve4_0, rfl, ge4_0⟩ := k44_openM hM4; have hx4_0 : wm3.cell? ⟨go, (x5_1 : Int).toNat * 4, none⟩ = some (ve4_0) := hcc4 0 _ rfl; have hf4_0 : wm3.frozen? ⟨go, (x5_1 : Int).toNat * 4, none⟩ = false := hfr4 0; have hx4_1 : wm3.cell? ⟨go, (x5_1 : Int).toNat * 4 + 1, none⟩ = some (.int .i64 t0) := hcc4 1 _ rfl; have hf4_1 : wm3.frozen? ⟨go, (x5_1 : Int).toNat * 4 + 1, none⟩ = false := hfr4 1; have hx4_2 : wm3.cell? ⟨go, (x5_1 : Int).toNat * 4 + 2, none⟩ = some (.int .i64 (wrap64 (t0 + 1))) := hcc4 2 _ rfl; have hf4_2 : wm3.frozen? ⟨go, (x5_1 : Int).toNat * 4 + 2, none⟩ = false := hfr4 2; have hx4_3 : wm3.cell? ⟨go, (x5_1 : Int).toNat * 4 + 3, none⟩ = some (.string ((rd_T44 x0_1 x5_1).f3)) := hcc4 3 _ rfl; have hf4_3 : wm3.frozen? ⟨go, (x5_1 : Int).toNat * 4 + 3, none⟩ = false := hfr4 3; clear hcc4 hfr4 hM4) | ((with_reducible refine gate_callee (f := 103) rfl ?_); refine goesL_ (some 36) rfl rfl Try.func103 (by kernel_rfl) rfl #[.int .i64 (wrap64 ((wrap64 (t0 + 1)) + 1))] rfl (by (try simp only [mp_]); first | done | rfl | (simp only [List.length_drop, List.length_take]; rfl)) ?_; (with_reducible refine (laws_markText.calls k1 (wrap64 ((wrap64 (t0 + 1)) + 1)) s3 _ A3.out).mono ?_); rintro e wm4 ⟨rfl, hb⟩; refine ⟨_, rfl, ?_⟩; have n0_ := Aside0.mk (Kd.S_below (sp_ HO.out) hb); have n1_ := Aside0.mk (Kept.below (S := (fun k_ => P0_ k_)) (by repeat (first | (with_reducible first | exact HK.out | apply Kept.alloc | apply Kept.drewN | apply Kept.drew) | exact HK.out)) hb); have n2_ := Aside0.mk (below_step (by repeat (first | (with_reducible first | exact HB.out | apply ba_ | apply bn_ | apply bd_) | exact HB.out)) hb); clear HO HK HB; have HO := n0_; have HK := n1_; have HB := n2_; clear n0_ n1_ n2_; obtain ⟨oki5, ce5, hM5, hcc5, hfr5, hoki5, hin5, hput5⟩ := S_hand HO.out c4 c3; obtain ⟨ve5_0, rfl, ge5_0⟩ := k44_openM hM5; have hx5_0 : wm4.cell? ⟨go, (x5_1 : Int).toNat * 4, none⟩ = some (ve5_0) := hcc5 0 _ rfl; have hf5_0 : wm4.frozen? ⟨go, (x5_1 : Int).toNat * 4, none⟩ = false := hfr5 0; have hx5_1 : wm4.cell? ⟨go, (x5_1 : Int).toNat * 4 + 1, none⟩ = some (.int .i64 t0) := hcc5 1 _ rfl; have hf5_1 : wm4.frozen? ⟨go, (x5_1 : Int).toNat * 4 + 1, none⟩ = false := hfr5 1; have hx5_2 : wm4.cell? ⟨go, (x5_1 : Int).toNat * 4 + 2, none⟩ = some (.int .i64 (wrap64 (t0 + 1))) := hcc5 2 _ rfl; have hf5_2 : wm4.frozen? ⟨go, (x5_1 : Int).toNat * 4 + 2, none⟩ = false := hfr5 2; have hx5_3 : wm4.cell? ⟨go, (x5_1 : Int).toNat * 4 + 3, none⟩ = some (.string ((rd_T44 x0_1 x5_1).f3)) := hcc5 3 _ rfl; have hf5_3 : wm4.frozen? ⟨go, (x5_1 : Int).toNat * 4 + 3, none⟩ = false := hfr5 3; clear hcc5 hfr5 hM5) | ((with_reducible refine gate_store (t := 9) (p := 38) rfl ?_); refine store_event (t := 9) (p := 38) (v := ?vo_wm5) (w1 := (wm4.setCell ⟨go, (x5_1 : Int).toNat * 4 + 3, none⟩ (.string s3))) ?hg ?ho ?hn ?hr ?_; (case ho => rfl); (case hg => rfl); (case hn => rfl); (case hr => first | (go_simp; done) | (go_simp; rfl)); intro wm5 hw; have hs_ := hput5 (.string s3) 3 (⟨s0, t0, wrap64 (t0 + 1), s3⟩ : S44) rfl (by decide) (k44_mkM _ _ _ (⟨s0, t0, wrap64 (t0 + 1), s3⟩ : S44) ge5_0); have hg : wm4.grownBy wm5 (some go) := (by rw [hw]; exact hs_.2); have n0_ := Aside0.mk (show Kd.S k44 44 wm5 w0.heap.size P0_ (.slice (some ⟨go, 0, none⟩) x0_1.length co) (x0_1.set (x5_1 : Int).toNat (⟨s0, t0, wrap64 (t0 + 1), s3⟩ : S44)) from (by rw [hw]; exact hs_.1)); have n2_ := Aside0.mk (show Below w0.heap.size w0 wm5 from (by rw [hw]; exact below_set (HB.out) GB.out)); have n1_ := Aside0.mk (Kept.of_grown (S := (fun k_ => P0_ k_)) hg (by repeat (first | (with_reducible first | exact HK.out | apply Kept.alloc | apply Kept.drewN | apply Kept.drew) | exact HK.out)) (fun k_ e_ => .inl ((Kd.S_R HO.out).1 k_ e_))); clear hg hw hs_; clear HO HK HB; have HO := n0_; have HK := n1_; have HB := n2_; clear n0_ n1_ n2_))
     go_roundg k1
     case measure => have := HK1.out; omega
     case rel => exact ⟨x0_1.set (x5_1 : Int).toNat (⟨s0, t0, wrap64 (t0 + 1), s3⟩ : S44), (wrap64 ((wrap64 ((wrap64 (t0 + 1)) + 1)) + 1)), wrap64 (x5_1 + 1), (by first | rfl | (simp; done) | (simp [*]; done)), (by first | rfl | (simp; done) | (simp [*]; done)), H', ⟨by have := HK1.out; omega⟩, ⟨(sp_ HO.out)⟩, ⟨(by repeat (first | (with_reducible first | exact HK.out | apply Kept.alloc | apply Kept.drewN | apply Kept.drew) | exact HK.out))⟩, ⟨(by repeat (first | (with_reducible first | exact HB.out | apply ba_ | apply bn_ | apply bd_) | exact HB.out))⟩⟩
    rw [if_neg c4] at H
    exact absurd H (by simp)
   rw [if_neg c3] at H
   have c3b0 : decide (x5_1 < (x0_1.length : Int)) = false := decide_eq_false c3
   simp only [Option.some.injEq, Prod.mk.injEq] at H
   obtain ⟨rfl, rfl⟩ := H
   obtain ⟨Ao, co, eo⟩ := Kd.S_slice HO.out
   subst eo
   go_wp2
   go_ret
   exact ⟨by first | rfl | (simp [*] <;> rfl), (sp_ HO.out), (by repeat (first | (with_reducible first | exact HB.out | apply ba_ | apply bn_ | apply bd_) | exact HB.out)), (by repeat (first | (with_reducible first | exact HK.out | apply Kept.alloc | apply Kept.drewN | apply Kept.drew) | exact HK.out))⟩
def laws_markGroup.f (k : Nat) (a0_0 : Int) (l0_1 : List (S164)) (a0_2 : Int) (a0_3 : Int) (l0_4 : List (S44)) (a1 : Int) : Option (Int × (List (S164)) × (List (S44))) := (laws_markLabelS.f k l0_1 a1).bind fun b1 => ((laws_markAlarmS.f k l0_4 b1.1).bind fun b4 => (some (b4.1, b1.2, b4.2)))
theorem laws_markGroup.mono : ∀ a0 a1 a2 a3 a4 a5 k, LeO (laws_markGroup.f k a0 a1 a2 a3 a4 a5) (laws_markGroup.f (k + 1) a0 a1 a2 a3 a4 a5) := by
 intro a0 a1 a2 a3 a4 a5 k
 unfold laws_markGroup.f
 repeat' first
   | (with_reducible exact laws_markAlarmS.mono _ _ _)
   | (with_reducible exact laws_markLabelS.mono _ _ _)
   | (with_reducible exact LeO.refl _)
   | (with_reducible exact LeO.none _)
   | (with_reducible refine LeO.ite ?_ ?_)
   | (with_reducible refine LeO.bind ?_ (fun _ => ?_))
   | exact laws_markAlarmS.mono _ _ _
   | exact laws_markLabelS.mono _ _ _
theorem laws_markGroup.calls (k : Nat) (a0_0 : Int) (P0_1_ : Nat → Prop) (u9000_ : Value) (l0_1 : List (S164)) (a0_2 : Int) (a0_3 : Int) (P0_4_ : Nat → Prop) (u9001_ : Value) (l0_4 : List (S44)) (a1 : Int) (r1 : Int) (r2 : List (S164)) (r3 : List (S44)) (w0 w : World) (hB : Below w0.heap.size w0 w) (ho0_1 : Kd.R k164 164 w w0.heap.size P0_1_ u9000_ l0_1) (ho0_4 : Kd.S k44 44 w w0.heap.size P0_4_ u9001_ l0_4) (hp0_4_0_1 : ∀ k_, P0_4_ k_ → ¬ P0_1_ k_) (h : laws_markGroup.f k a0_0 l0_1 a0_2 a0_3 l0_4 a1 = some (r1, r2, r3)) :
  Calls Try.prog 58 #[.agg #[.int .i64 a0_0, u9000_, .int .i64 a0_2, .int .i64 a0_3, u9001_], .int .i64 a1] w fun e w' => e = .returned (.int .i64 r1) ∧ Kd.R k164 164 w' w0.heap.size (fun k_ => ((P0_1_ k_ ∨ P0_4_ k_) ∨ w.heap.size ≤ k_)) u9000_ r2 ∧ Kd.S k44 44 w' w0.heap.size P0_4_ u9001_ r3 ∧ Below w0.heap.size w0 w' ∧ Kept w w' (fun k_ => P0_1_ k_ ∨ P0_4_ k_) := by
 have HK := Aside0.mk (Kept.refl w (fun k_ => P0_1_ k_ ∨ P0_4_ k_))
 have HB := Aside0.mk hB
 have HO1 := Aside0.mk ho0_1
 have HO4 := Aside0.mk ho0_4
 clear ho0_1 ho0_4
 unfold laws_markGroup.f at h
 obtain ⟨⟨t1, s1⟩, A1_, h⟩ := Option.bind_eq_some_iff.mp h
 have A1 := Aside0.mk A1_; clear A1_; dsimp only at h A1
 obtain ⟨⟨t4, s4⟩, A4_, h⟩ := Option.bind_eq_some_iff.mp h
 have A4 := Aside0.mk A4_; clear A4_; dsimp only at h A4
 simp only [Option.some.injEq, Prod.mk.injEq] at h
 obtain ⟨rfl, rfl, rfl⟩ := h
 go_enter Try.func58, Try.ntmps58
 go_wp2_with (first | ((with_reducible refine gate_dst (N := 2) rfl ?_); refine box_event ?hg (N := 2) ?hd (cs := #[.int .i64 a0_0, u9000_, .int .i64 a0_2, .int .i64 a0_3, u9001_]) (t := 75) ?hr ?_; (case hd => rfl); (case hg => rfl); (case hr => first | (go_simp; done) | (go_simp; rfl)); intro gb hg wb hbox hb; have BK := Aside0.mk hbox; have n0_ := Aside0.mk (Kd.R_below (rp_ HO1.out) hb); have n1_ := Aside0.mk (Kd.S_below (sp_ HO4.out) hb); have n2_ := Aside0.mk (Kept.below (by repeat (first | (with_reducible first | exact HK.out | apply Kept.alloc | apply Kept.drewN | apply Kept.drew) | exact HK.out)) hb); have n3_ := Aside0.mk (below_step (by repeat (first | (with_reducible first | exact HB.out | apply ba_ | apply bn_ | apply bd_) | exact HB.out)) hb); clear HO1 HO4 HK HB; have HO1 := n0_; have HO4 := n1_; have HK := n2_; have HB := n3_; clear n0_ n1_ n2_ n3_; clear hb hbox hg; have hxwb_0 : wb.cell? ⟨gb, 0, none⟩ = some (.int .i64 a0_0) := (blk_cell BK.out 0).trans rfl; have hxwb_1 : wb.cell? ⟨gb, 1, none⟩ = some (u9000_) := (blk_cell BK.out 1).trans rfl; have hxwb_2 : wb.cell? ⟨gb, 2, none⟩ = some (.int .i64 a0_2) := (blk_cell BK.out 2).trans rfl; have hxwb_3 : wb.cell? ⟨gb, 3, none⟩ = some (.int .i64 a0_3) := (blk_cell BK.out 3).trans rfl; have hxwb_4 : wb.cell? ⟨gb, 4, none⟩ = some (u9001_) := (blk_cell BK.out 4).trans rfl; have hfwb_0 := blk_frozen BK.out 0; have hfwb_1 := blk_frozen BK.out 1; have hfwb_2 := blk_frozen BK.out 2; have hfwb_3 := blk_frozen BK.out 3; have hfwb_4 := blk_frozen BK.out 4) | ((with_reducible refine gate_callee (f := 99) rfl ?_); refine goesL_ (some 8) rfl rfl Try.func99 (by kernel_rfl) rfl #[u9000_, .int .i64 a1] rfl (by (try simp only [mp_]); first | done | rfl | (simp only [List.length_drop, List.length_take]; rfl)) ?_; obtain ⟨PX1, hPX1, hPl1⟩ := Kd.R_fp HO1.out; (with_reducible refine (laws_markLabelS.calls k PX1 u9000_ l0_1 a1 t1 s1 w0 _ HB.out hPX1 A1.out).mono ?_); rintro e wc1 ⟨rfl, hy, hb, hkp⟩; refine ⟨_, rfl, ?_⟩; have n0_ := Aside0.mk (Kd.R_reok rfl hy (fun k_ e_ => (HO1.out.1 k_ e_))); have n1_ := Aside0.mk (Kd.S_step HO4.out (fun k_ ho_ hl_ => hkp.2 k_ hl_ (fun h_ => hp0_4_0_1 k_ ho_ (hPl1 k_ h_).1))); have n2_ := Aside0.mk (Kept.then_ HK.out hkp (fun k_ h_ => .inl (.inl ((hPl1 k_ h_).1)))); have n3_ := Aside0.mk (blk_kept BK.out hkp (fun h_ => no_blk BK.out (by decide) (hPl1 _ h_).2.2)); have n4_ := Aside0.mk (hb); clear HO1 HO4 HK BK HB; have HO1 := n0_; have HO4 := n1_; have HK := n2_; have BK := n3_; have HB := n4_; clear n0_ n1_ n2_ n3_ n4_; clear hkp hPX1 hPl1 hy hb; have hxwc1_0 : wc1.cell? ⟨gb, 0, none⟩ = some (.int .i64 a0_0) := (blk_cell BK.out 0).trans rfl; have hxwc1_1 : wc1.cell? ⟨gb, 1, none⟩ = some (u9000_) := (blk_cell BK.out 1).trans rfl; have hxwc1_2 : wc1.cell? ⟨gb, 2, none⟩ = some (.int .i64 a0_2) := (blk_cell BK.out 2).trans rfl; have hxwc1_3 : wc1.cell? ⟨gb, 3, none⟩ = some (.int .i64 a0_3) := (blk_cell BK.out 3).trans rfl; have hxwc1_4 : wc1.cell? ⟨gb, 4, none⟩ = some (u9001_) := (blk_cell BK.out 4).trans rfl; have hfwc1_0 := blk_frozen BK.out 0; have hfwc1_1 := blk_frozen BK.out 1; have hfwc1_2 := blk_frozen BK.out 2; have hfwc1_3 := blk_frozen BK.out 3; have hfwc1_4 := blk_frozen BK.out 4) | ((with_reducible refine gate_callee (f := 39) rfl ?_); refine goesL_ (some 12) rfl rfl Try.func39 (by kernel_rfl) rfl #[u9001_, .int .i64 t1] rfl (by (try simp only [mp_]); first | done | rfl | (simp only [List.length_drop, List.length_take]; rfl)) ?_; obtain ⟨PX4, hPX4, hPl4⟩ := Kd.S_fp HO4.out; (with_reducible refine (laws_markAlarmS.calls k PX4 u9001_ l0_4 t1 t4 s4 w0 _ HB.out hPX4 A4.out).mono ?_); rintro e wc4 ⟨rfl, hy, hb, hkp⟩; refine ⟨_, rfl, ?_⟩; have n0_ := Aside0.mk (Kd.R_step HO1.out (fun k_ ho_ hl_ => hkp.2 k_ hl_ (fun h_ => hp0_4_0_1 k_ (hPl4 k_ h_).1 ho_))); have n1_ := Aside0.mk (Kd.S_mono hy (fun k_ h_ => (hPl4 k_ h_).1)); have n2_ := Aside0.mk (Kept.then_ HK.out hkp (fun k_ h_ => .inl (.inr ((hPl4 k_ h_).1)))); have n3_ := Aside0.mk (blk_kept BK.out hkp (fun h_ => no_blk BK.out (by decide) (hPl4 _ h_).2.2)); have n4_ := Aside0.mk (hb); clear HO1 HO4 HK BK HB; have HO1 := n0_; have HO4 := n1_; have HK := n2_; have BK := n3_; have HB := n4_; clear n0_ n1_ n2_ n3_ n4_; clear hkp hPX4 hPl4 hy hb; have hxwc4_0 : wc4.cell? ⟨gb, 0, none⟩ = some (.int .i64 a0_0) := (blk_cell BK.out 0).trans rfl; have hxwc4_1 : wc4.cell? ⟨gb, 1, none⟩ = some (u9000_) := (blk_cell BK.out 1).trans rfl; have hxwc4_2 : wc4.cell? ⟨gb, 2, none⟩ = some (.int .i64 a0_2) := (blk_cell BK.out 2).trans rfl; have hxwc4_3 : wc4.cell? ⟨gb, 3, none⟩ = some (.int .i64 a0_3) := (blk_cell BK.out 3).trans rfl; have hxwc4_4 : wc4.cell? ⟨gb, 4, none⟩ = some (u9001_) := (blk_cell BK.out 4).trans rfl; have hfwc4_0 := blk_frozen BK.out 0; have hfwc4_1 := blk_frozen BK.out 1; have hfwc4_2 := blk_frozen BK.out 2; have hfwc4_3 := blk_frozen BK.out 3; have hfwc4_4 := blk_frozen BK.out 4))
 go_ret
 exact ⟨by first | rfl | (simp [*] <;> rfl), (Kd.R_mono (rp_ HO1.out) (fun k_ h_ => .inl (.inl (h_)))), (sp_ HO4.out), (by repeat (first | (with_reducible first | exact HB.out | apply ba_ | apply bn_ | apply bd_) | exact HB.out)), (by repeat (first | (with_reducible first | exact HK.out | apply Kept.alloc | apply Kept.drewN | apply Kept.drew) | exact HK.out))⟩
def laws_heldLabelS.l0 : Nat → List (S164) → Int → Int → Option (Int)
 | 0, _, _, _ => none
 | k + 1, x0, x1, x5 => if x5 < (x0.length : Int) then (if 0 ≤ x5 then ((laws_markText.f k x1).bind fun t325 => (if ((rd_T164 x0 x5).f0).toList = t325.toList then ((laws_markText.f k (wrap64 (x1 + 1))).bind fun t327 => (if ((rd_T164 x0 x5).f1).toList = t327.toList then (laws_heldLabelS.l0 k x0 (wrap64 ((wrap64 (x1 + 1)) + 1)) (wrap64 (x5 + 1))) else (none))) else (none))) else (none)) else (some x1)
def laws_heldLabelS.f (k : Nat) (l0 : List (S164)) (a1 : Int) : Option (Int) := laws_heldLabelS.l0 k l0 a1 0
theorem laws_heldLabelS.mono_l : ∀ k, (∀ y0 y1 y2, LeO (laws_heldLabelS.l0 k y0 y1 y2) (laws_heldLabelS.l0 (k + 1) y0 y1 y2))
 | 0 => fun _ _ _ r h => by simp [laws_heldLabelS.l0] at h
 | k + 1 => by
  have ih0 := laws_heldLabelS.mono_l k
  intro y0 y1 y2
  unfold laws_heldLabelS.l0
  repeat' first
  | (with_reducible exact ih0 _ _ _)
  | (with_reducible exact laws_markText.mono _ _)
  | (with_reducible exact LeO.refl _)
  | (with_reducible exact LeO.none _)
  | (with_reducible refine LeO.ite ?_ ?_)
  | (with_reducible refine LeO.bind ?_ (fun _ => ?_))
  | exact ih0 _ _ _
  | exact laws_markText.mono _ _
theorem laws_heldLabelS.mono : ∀ a0 a1 k, LeO (laws_heldLabelS.f k a0 a1) (laws_heldLabelS.f (k + 1) a0 a1) := by
 intro a0 a1 k
 have ih0 := laws_heldLabelS.mono_l k
 unfold laws_heldLabelS.f
 repeat' first
   | (with_reducible exact ih0 _ _ _)
   | (with_reducible exact laws_markText.mono _ _)
   | (with_reducible exact LeO.refl _)
   | (with_reducible exact LeO.none _)
   | (with_reducible refine LeO.ite ?_ ?_)
   | (with_reducible refine LeO.bind ?_ (fun _ => ?_))
   | exact ih0 _ _ _
   | exact laws_markText.mono _ _
def laws_heldLabelS.T4 : Bool × List (List Nat × List Nat) := (true, [([], []), ([], []), ([0, 1], [0, 1]), ([2], [2]), ([3], [3]), ([], []), ([5], [5]), ([4, 6], [4, 6])])
def laws_heldLabelS.B4 : List Nat := [0, 0, 3, 7, 15, 0, 32, 127]
theorem laws_heldLabelS.tab4 : rtab .any (opsOf Try.f102 4) = laws_heldLabelS.T4 := by kernel_rfl
theorem laws_heldLabelS.bits4 : waitsOk laws_heldLabelS.T4.2 laws_heldLabelS.B4 = true := by kernel_rfl
def laws_heldLabelS.T7 : Bool × List (List Nat × List Nat) := (true, [([], []), ([], []), ([0, 1], [0, 1]), ([2], [2]), ([3], [3]), ([], []), ([5], [5]), ([4, 6], [4, 6])])
def laws_heldLabelS.B7 : List Nat := [0, 0, 3, 7, 15, 0, 32, 127]
theorem laws_heldLabelS.tab7 : rtab .any (opsOf Try.f102 7) = laws_heldLabelS.T7 := by kernel_rfl
theorem laws_heldLabelS.bits7 : waitsOk laws_heldLabelS.T7.2 laws_heldLabelS.B7 = true := by kernel_rfl
theorem laws_heldLabelS.calls (k : Nat) (A0 : Option Addr) (c0 : Nat) (l0 : List (S164)) (a1 : Int) (r : Int) (w : World) (hr0 : Kd.C k164 w A0 l0.length l0) (hc0 : l0.length ≤ c0) (h : laws_heldLabelS.f k l0 a1 = some r) :
  Calls Try.prog 102 #[.slice A0 l0.length c0, .int .i64 a1] w fun e w' => e = .returned (.int .i64 r) ∧ Below w.heap.size w w' := by
 have HR0 := Aside0.mk hr0
 have HC0 := Aside0.mk hc0
 clear hr0 hc0
 have HB := Aside0.mk (Below.refl w.heap.size w)
 have H : (laws_heldLabelS.l0 k l0 a1 0) = some r := h
 clear h
 have H' := Aside0.mk H
 clear H
 go_enter Try.func102, Try.ntmps102
 go_wp2
 go_loopg [1, 5] k (fun kq v1 v5 w' => ∃ (x1_1 : Int) (x5_1 : Int), v1 = .int .i64 x1_1 ∧ v5 = .int .i64 x5_1 ∧ Aside0 (laws_heldLabelS.l0 kq l0 x1_1 x5_1 = some r) ∧ Aside0 (kq ≤ k) ∧ Aside0 (Below w.heap.size w w'))
 case atStart => exact ⟨(a1), (0), (by first | rfl | (simp; done) | (simp [*]; done)), (by first | rfl | (simp; done) | (simp [*]; done)), H', ⟨Nat.le_refl _⟩, ⟨by repeat (first | (with_reducible first | exact HB.out | apply ba_ | apply bn_ | apply bd_) | exact HB.out)⟩⟩
 case round =>
  clear H'
  try clear c1
  try clear p2
  obtain ⟨x1_1, x5_1, rfl, rfl, HA, HK1, HB⟩ := hrel
  cases gk with
  | zero => exact absurd HA.out (by simp [laws_heldLabelS.l0])
  | succ k1 =>
   have H := HA.out
   clear HA
   simp only [laws_heldLabelS.l0] at H
   by_cases c3 : x5_1 < (l0.length : Int)
   ·
    rw [if_pos c3] at H
    have c3b0 := decide_eq_true c3
    clear c3
    by_cases c4 : 0 ≤ x5_1
    ·
     rw [if_pos c4] at H
     have c4b0 := decide_eq_true c4
     clear c4
     replace H := Option.bind_eq_some_iff.mp H
     obtain ⟨t325, A50, H⟩ := H
     have A5 := Aside0.mk A50
     clear A50
     by_cases c6 : ((rd_T164 l0 x5_1).f0).toList = t325.toList
     ·
      rw [if_pos c6] at H
      have c6b0 : (((rd_T164 l0 x5_1).f0).toList == t325.toList) = true := beq_iff_eq.mpr c6
      have c6b1 : (((rd_T164 l0 x5_1).f0).toList != t325.toList) = false := bne_eq_false_iff_eq.mpr c6
      clear c6
      replace H := Option.bind_eq_some_iff.mp H
      obtain ⟨t327, A70, H⟩ := H
      have A7 := Aside0.mk A70
      clear A70
      by_cases c8 : ((rd_T164 l0 x5_1).f1).toList = t327.toList
      ·
       rw [if_pos c8] at H
       have c8b0 : (((rd_T164 l0 x5_1).f1).toList == t327.toList) = true := beq_iff_eq.mpr c8
       have c8b1 : (((rd_T164 l0 x5_1).f1).toList != t327.toList) = false := bne_eq_false_iff_eq.mpr c8
       clear c8
       have H' := Aside0.mk H
       clear H
       try go_wp2
       have n0_ := Aside0.mk (bd_ HB.out)
       clear HB
       have HB := n0_
       clear n0_
       have p324 : 0 ≤ (x5_1 : Int) := of_decide_eq_true (by with_reducible assumption)
       have q324 : x5_1 < (l0.length : Int) := of_decide_eq_true (by with_reducible assumption)
       obtain ⟨ad324, e324, hx324_0, hx324_1⟩ := at_T164 HR0.out x5_1 p324 q324
       have hw324_1 := hx324_1
       have hw324_0 := hx324_0
       cases e324
       replace hx324_0 := cl_ HB.out hx324_0
       replace hx324_1 := cl_ HB.out hx324_1
       replace p324 := eq_true p324
       replace q324 := eq_true q324
       refine start_ (n := 8) (S := fun w' => w'.cell? (ad324.add ((x5_1).toNat * 2)) = some (.string ((rd_T164 l0 x5_1).f0)) ∧ w'.cell? ⟨(ad324.add ((x5_1).toNat * 2)).block, (ad324.add ((x5_1).toNat * 2)).off + 1, none⟩ = some (.string ((rd_T164 l0 x5_1).f1))) (ds := []) #[f_,f_,f_,f_,f_,f_,f_,f_] (by kernel_rfl) rfl rfl ⟨((HB.out.cell (World.block_lt_of_cell? w _ hw324_0)).trans hw324_0), ((HB.out.cell (World.block_lt_of_cell? w _ hw324_1)).trans hw324_1)⟩ (fun hHeld => ?_); refine with_tabW laws_heldLabelS.tab4 laws_heldLabelS.bits4 (fun HT_ HW_ => ?_)
       generalize wr.drew = w9 at HB hx324_0 hx324_1 hHeld ⊢
       refine pu_ 0 12 ?_ (b_ 1 7) rfl rfl HT_.out ?_ ?_ ?_ ?_; rotate_left; intro w'; go_simp; with_reducible rfl; rotate_left; simp only [fr_]; rfl
       refine pu_ 1 13 ?_ (b_ 2 6) rfl rfl HT_.out ?_ ?_ ?_ ?_; rotate_left; intro w'; go_simp; with_reducible rfl; rotate_left; simp only [fr_]; rfl
       refine pu_ 2 14 ?_ (b_ 3 5) rfl rfl HT_.out ?_ ?_ ?_ ?_; rotate_left; intro w'; go_simp; with_reducible rfl; rotate_left; simp only [fr_]; rfl
       refine pu_ 3 15 ?_ (b_ 4 4) rfl rfl HT_.out ?_ ?_ ?_ ?_; rotate_left; intro w'; go_simp; with_reducible rfl; rotate_left; simp only [fr_]; rfl
       refine pu_ 5 17 ?_ #[t_,t_,t_,t_,f_,t_,f_,f_] rfl rfl HT_.out ?_ ?_ ?_ ?_; rotate_left; intro w'; go_simp; with_reducible rfl; rotate_left; simp only [fr_]; rfl
       refine take_ (i := 4) (N := some 16) (v := ?_) (a' := ?_) #[t_,t_,t_,t_,t_,t_,f_,f_] rfl rfl (take_ofW HT_.out HW_.out (by kernel_rfl)) (fun _ _ _ h => h) (Or.inl ⟨by rfl, ?_⟩) hHeld ?_ ?_
       rotate_left
       ·
        rintro w' ⟨s0, s1⟩
        go_simp
        with_reducible rfl
       rotate_left
       ·
        simp only [fr_]
        rfl
       refine one_ (i := 6) (N := some 18) #[t_,t_,t_,t_,t_,t_,t_,f_] rfl rfl (one_of HT_.out (by kernel_rfl)) (by decide) (fun K hK => ?_)
       refine goes_ Try.func103 (by kernel_rfl) rfl #[.int .i64 x1_1] (by rfl) rfl rfl (by (try simp only [mp_]); first | done | rfl | (simp only [List.length_drop, List.length_take]; rfl)) ?_
       with_reducible refine (laws_markText.calls k1 x1_1 t325 _ A5.out).mono ?_
       rintro e w10 ⟨rfl, hb⟩
       refine ⟨_, rfl, ?_⟩
       have n0_ := Aside0.mk (below_step (by repeat (first | (with_reducible first | exact HB.out | apply ba_ | apply bn_ | apply bd_) | exact HB.out)) hb)
       clear HB
       have HB := n0_
       clear n0_
       (try clear hb)
       (try clear hb2)
       (try clear hk)
       (try clear hi)
       refine hK.out _ _ ⟨((HB.out.cell (World.block_lt_of_cell? w _ hw324_0)).trans hw324_0), ((HB.out.cell (World.block_lt_of_cell? w _ hw324_1)).trans hw324_1)⟩ (fun hHeld => ?_)
       clear hK K
       refine norm_ (a' := ?_) ?_ ?_
       rotate_left
       ·
        show Act.put _ (some 18) _ = _
        simp only [fr_]
        rfl
       refine pu_ 7 19 ?_ (b_ 8 0) rfl rfl HT_.out ?_ ?_ ?_ ?_; rotate_left; intro w'; go_simp; with_reducible rfl; rotate_left; simp only [fr_]; rfl
       refine done_ (done_of HT_.out (by kernel_rfl)) ?_
       try go_wp2
       have n0_ := Aside0.mk (bd_ HB.out)
       clear HB
       have HB := n0_
       clear n0_
       have p326 : 0 ≤ (x5_1 : Int) := of_decide_eq_true (by with_reducible assumption)
       have q326 : x5_1 < (l0.length : Int) := of_decide_eq_true (by with_reducible assumption)
       obtain ⟨ad326, e326, hx326_0, hx326_1⟩ := at_T164 HR0.out x5_1 p326 q326
       have hw326_1 := hx326_1
       have hw326_0 := hx326_0
       obtain rfl : ad324 = ad326 := (by injection e326)
       replace hx326_0 := cl_ HB.out hx326_0
       replace hx326_1 := cl_ HB.out hx326_1
       replace p326 := eq_true p326
       replace q326 := eq_true q326
       refine start_ (n := 8) (S := fun w' => w'.cell? (ad324.add ((x5_1).toNat * 2)) = some (.string ((rd_T164 l0 x5_1).f0)) ∧ w'.cell? ⟨(ad324.add ((x5_1).toNat * 2)).block, (ad324.add ((x5_1).toNat * 2)).off + 1, none⟩ = some (.string ((rd_T164 l0 x5_1).f1))) (ds := []) #[f_,f_,f_,f_,f_,f_,f_,f_] (by kernel_rfl) rfl rfl ⟨((HB.out.cell (World.block_lt_of_cell? w _ hw326_0)).trans hw326_0), ((HB.out.cell (World.block_lt_of_cell? w _ hw326_1)).trans hw326_1)⟩ (fun hHeld => ?_); refine with_tabW laws_heldLabelS.tab7 laws_heldLabelS.bits7 (fun HT_ HW_ => ?_)
       generalize w10.drew = w11 at HB hx326_0 hx326_1 hHeld ⊢
       refine pu_ 0 22 ?_ (b_ 1 7) rfl rfl HT_.out ?_ ?_ ?_ ?_; rotate_left; intro w'; go_simp; with_reducible rfl; rotate_left; simp only [fr_]; rfl
       refine pu_ 1 23 ?_ (b_ 2 6) rfl rfl HT_.out ?_ ?_ ?_ ?_; rotate_left; intro w'; go_simp; with_reducible rfl; rotate_left; simp only [fr_]; rfl
       refine pu_ 2 24 ?_ (b_ 3 5) rfl rfl HT_.out ?_ ?_ ?_ ?_; rotate_left; intro w'; go_simp; with_reducible rfl; rotate_left; simp only [fr_]; rfl
       refine pu_ 3 25 ?_ (b_ 4 4) rfl rfl HT_.out ?_ ?_ ?_ ?_; rotate_left; intro w'; go_simp; with_reducible rfl; rotate_left; simp only [fr_]; rfl
       refine pu_ 5 27 ?_ #[t_,t_,t_,t_,f_,t_,f_,f_] rfl rfl HT_.out ?_ ?_ ?_ ?_; rotate_left; intro w'; go_simp; with_reducible rfl; rotate_left; simp only [fr_]; rfl
       refine take_ (i := 4) (N := some 26) (v := ?_) (a' := ?_) #[t_,t_,t_,t_,t_,t_,f_,f_] rfl rfl (take_ofW HT_.out HW_.out (by kernel_rfl)) (fun _ _ _ h => h) (Or.inl ⟨by rfl, ?_⟩) hHeld ?_ ?_
       rotate_left
       ·
        rintro w' ⟨s0, s1⟩
        go_simp
        with_reducible rfl
       rotate_left
       ·
        simp only [fr_]
        rfl
       refine one_ (i := 6) (N := some 28) #[t_,t_,t_,t_,t_,t_,t_,f_] rfl rfl (one_of HT_.out (by kernel_rfl)) (by decide) (fun K hK => ?_)
       refine goes_ Try.func103 (by kernel_rfl) rfl #[.int .i64 (wrap64 (x1_1 + 1))] (by rfl) rfl rfl (by (try simp only [mp_]); first | done | rfl | (simp only [List.length_drop, List.length_take]; rfl)) ?_
       with_reducible refine (laws_markText.calls k1 (wrap64 (x1_1 + 1)) t327 _ A7.out).mono ?_
       rintro e w12 ⟨rfl, hb⟩
       refine ⟨_, rfl, ?_⟩
       have n0_ := Aside0.mk (below_step (by repeat (first | (with_reducible first | exact HB.out | apply ba_ | apply bn_ | apply bd_) | exact HB.out)) hb)
       clear HB
       have HB := n0_
       clear n0_
       (try clear hb)
       (try clear hb2)
       (try clear hk)
       (try clear hi)
       refine hK.out _ _ ⟨((HB.out.cell (World.block_lt_of_cell? w _ hw326_0)).trans hw326_0), ((HB.out.cell (World.block_lt_of_cell? w _ hw326_1)).trans hw326_1)⟩ (fun hHeld => ?_)
       clear hK K
       refine norm_ (a' := ?_) ?_ ?_
       rotate_left
       ·
        show Act.put _ (some 28) _ = _
        simp only [fr_]
        rfl
       refine pu_ 7 29 ?_ (b_ 8 0) rfl rfl HT_.out ?_ ?_ ?_ ?_; rotate_left; intro w'; go_simp; with_reducible rfl; rotate_left; simp only [fr_]; rfl
       refine done_ (done_of HT_.out (by kernel_rfl)) ?_
       try go_wp2
       go_roundg k1
       case measure => have := HK1.out; omega
       case rel => exact ⟨(wrap64 ((wrap64 (x1_1 + 1)) + 1)), (wrap64 (x5_1 + 1)), (by first | rfl | (simp; done) | (simp [*]; done)), (by first | rfl | (simp; done) | (simp [*]; done)), H', ⟨by have := HK1.out; omega⟩, ⟨by repeat (first | (with_reducible first | exact HB.out | apply ba_ | apply bn_ | apply bd_) | exact HB.out)⟩⟩
      rw [if_neg c8] at H
      exact absurd H (by simp)
     rw [if_neg c6] at H
     exact absurd H (by simp)
    rw [if_neg c4] at H
    exact absurd H (by simp)
   rw [if_neg c3] at H
   have c3b0 : decide (x5_1 < (l0.length : Int)) = false := decide_eq_false c3
   clear c3
   obtain rfl := Option.some.inj H
   go_wp2
   go_ret
   exact ⟨by first | rfl | (simp [errW_none, errW_some] <;> rfl) | (simp [*, errW_none, errW_some] <;> rfl), by repeat (first | (with_reducible first | exact HB.out | apply ba_ | apply bn_ | apply bd_) | exact HB.out)⟩
def laws_heldAlarmS.l0 : Nat → List (S44) → Int → Int → Option (Int)
 | 0, _, _, _ => none
 | k + 1, x0, x1, x5 => if x5 < (x0.length : Int) then (if 0 ≤ x5 then ((laws_heldLabelS.f k ((rd_T44 x0 x5).f0) x1).bind fun t329 => (if t329 < 0 then (none) else (if ((rd_T44 x0 x5).f1) = t329 then (if ((rd_T44 x0 x5).f2) = (wrap64 (t329 + 1)) then ((laws_markText.f k (wrap64 ((wrap64 (t329 + 1)) + 1))).bind fun t333 => (if ((rd_T44 x0 x5).f3).toList = t333.toList then (laws_heldAlarmS.l0 k x0 (wrap64 ((wrap64 ((wrap64 (t329 + 1)) + 1)) + 1)) (wrap64 (x5 + 1))) else (none))) else (none)) else (none)))) else (none)) else (some x1)
def laws_heldAlarmS.f (k : Nat) (l0 : List (S44)) (a1 : Int) : Option (Int) := laws_heldAlarmS.l0 k l0 a1 0
theorem laws_heldAlarmS.mono_l : ∀ k, (∀ y0 y1 y2, LeO (laws_heldAlarmS.l0 k y0 y1 y2) (laws_heldAlarmS.l0 (k + 1) y0 y1 y2))
 | 0 => fun _ _ _ r h => by simp [laws_heldAlarmS.l0] at h
 | k + 1 => by
  have ih0 := laws_heldAlarmS.mono_l k
  intro y0 y1 y2
  unfold laws_heldAlarmS.l0
  repeat' first
  | (with_reducible exact ih0 _ _ _)
  | (with_reducible exact laws_heldLabelS.mono _ _ _)
  | (with_reducible exact laws_markText.mono _ _)
  | (with_reducible exact LeO.refl _)
  | (with_reducible exact LeO.none _)
  | (with_reducible refine LeO.ite ?_ ?_)
  | (with_reducible refine LeO.bind ?_ (fun _ => ?_))
  | exact ih0 _ _ _
  | exact laws_heldLabelS.mono _ _ _
  | exact laws_markText.mono _ _
theorem laws_heldAlarmS.mono : ∀ a0 a1 k, LeO (laws_heldAlarmS.f k a0 a1) (laws_heldAlarmS.f (k + 1) a0 a1) := by
 intro a0 a1 k
 have ih0 := laws_heldAlarmS.mono_l k
 unfold laws_heldAlarmS.f
 repeat' first
   | (with_reducible exact ih0 _ _ _)
   | (with_reducible exact laws_heldLabelS.mono _ _ _)
   | (with_reducible exact laws_markText.mono _ _)
   | (with_reducible exact LeO.refl _)
   | (with_reducible exact LeO.none _)
   | (with_reducible refine LeO.ite ?_ ?_)
   | (with_reducible refine LeO.bind ?_ (fun _ => ?_))
   | exact ih0 _ _ _
   | exact laws_heldLabelS.mono _ _ _
   | exact laws_markText.mono _ _
def laws_heldAlarmS.T13 : Bool × List (List Nat × List Nat) := (true, [([], []), ([], []), ([0, 1], [0, 1]), ([2], [2]), ([3], [3]), ([], []), ([5], [5]), ([4, 6], [4, 6])])
def laws_heldAlarmS.B13 : List Nat := [0, 0, 3, 7, 15, 0, 32, 127]
theorem laws_heldAlarmS.tab13 : rtab .any (opsOf Try.f40 13) = laws_heldAlarmS.T13 := by kernel_rfl
theorem laws_heldAlarmS.bits13 : waitsOk laws_heldAlarmS.T13.2 laws_heldAlarmS.B13 = true := by kernel_rfl
theorem laws_heldAlarmS.calls (k : Nat) (A0 : Option Addr) (c0 : Nat) (l0 : List (S44)) (a1 : Int) (r : Int) (w : World) (hr0 : Kd.C k44 w A0 l0.length l0) (hc0 : l0.length ≤ c0) (h : laws_heldAlarmS.f k l0 a1 = some r) :
  Calls Try.prog 40 #[.slice A0 l0.length c0, .int .i64 a1] w fun e w' => e = .returned (.int .i64 r) ∧ Below w.heap.size w w' := by
 have HR0 := Aside0.mk hr0
 have HC0 := Aside0.mk hc0
 clear hr0 hc0
 have HB := Aside0.mk (Below.refl w.heap.size w)
 have H : (laws_heldAlarmS.l0 k l0 a1 0) = some r := h
 clear h
 have H' := Aside0.mk H
 clear H
 go_enter Try.func40, Try.ntmps40
 go_wp2
 go_loopg [1, 5] k (fun kq v1 v5 w' => ∃ (x1_1 : Int) (x5_1 : Int), v1 = .int .i64 x1_1 ∧ v5 = .int .i64 x5_1 ∧ Aside0 (laws_heldAlarmS.l0 kq l0 x1_1 x5_1 = some r) ∧ Aside0 (kq ≤ k) ∧ Aside0 (Below w.heap.size w w'))
 case atStart => exact ⟨(a1), (0), (by first | rfl | (simp; done) | (simp [*]; done)), (by first | rfl | (simp; done) | (simp [*]; done)), H', ⟨Nat.le_refl _⟩, ⟨by repeat (first | (with_reducible first | exact HB.out | apply ba_ | apply bn_ | apply bd_) | exact HB.out)⟩⟩
 case round =>
  clear H'
  try clear p2
  obtain ⟨x1_1, x5_1, rfl, rfl, HA, HK1, HB⟩ := hrel
  cases gk with
  | zero => exact absurd HA.out (by simp [laws_heldAlarmS.l0])
  | succ k1 =>
   have H := HA.out
   clear HA
   simp only [laws_heldAlarmS.l0] at H
   by_cases c3 : x5_1 < (l0.length : Int)
   ·
    rw [if_pos c3] at H
    have c3b0 := decide_eq_true c3
    clear c3
    by_cases c4 : 0 ≤ x5_1
    ·
     rw [if_pos c4] at H
     have c4b0 := decide_eq_true c4
     clear c4
     replace H := Option.bind_eq_some_iff.mp H
     obtain ⟨t329, A50, H⟩ := H
     have A5 := Aside0.mk A50
     clear A50
     by_cases c6 : t329 < 0
     ·
      rw [if_pos c6] at H
      exact absurd H (by simp)
     rw [if_neg c6] at H
     have c6b0 : decide (t329 < 0) = false := decide_eq_false c6
     clear c6
     by_cases c7 : ((rd_T44 l0 x5_1).f1) = t329
     ·
      rw [if_pos c7] at H
      have c7b0 : (((rd_T44 l0 x5_1).f1) == t329) = true := beq_iff_eq.mpr c7
      have c7b1 : (((rd_T44 l0 x5_1).f1) != t329) = false := bne_eq_false_iff_eq.mpr c7
      clear c7
      by_cases c8 : ((rd_T44 l0 x5_1).f2) = (wrap64 (t329 + 1))
      ·
       rw [if_pos c8] at H
       have c8b0 : (((rd_T44 l0 x5_1).f2) == (wrap64 (t329 + 1))) = true := beq_iff_eq.mpr c8
       have c8b1 : (((rd_T44 l0 x5_1).f2) != (wrap64 (t329 + 1))) = false := bne_eq_false_iff_eq.mpr c8
       clear c8
       replace H := Option.bind_eq_some_iff.mp H
       obtain ⟨t333, A90, H⟩ := H
       have A9 := Aside0.mk A90
       clear A90
       by_cases c10 : ((rd_T44 l0 x5_1).f3).toList = t333.toList
       ·
        rw [if_pos c10] at H
        have c10b0 : (((rd_T44 l0 x5_1).f3).toList == t333.toList) = true := beq_iff_eq.mpr c10
        have c10b1 : (((rd_T44 l0 x5_1).f3).toList != t333.toList) = false := bne_eq_false_iff_eq.mpr c10
        clear c10
        have H' := Aside0.mk H
        clear H
        have p328 : 0 ≤ (x5_1 : Int) := of_decide_eq_true (by with_reducible assumption)
        have q328 : x5_1 < (l0.length : Int) := of_decide_eq_true (by with_reducible assumption)
        obtain ⟨ad328, A328_0, c328_0, e328, hx328_0, hx328_1, hx328_2, hx328_3, hl328_0, hi328_0⟩ := at_T44 HR0.out x5_1 p328 q328
        cases e328
        replace hx328_0 := cl_ HB.out hx328_0
        replace hx328_1 := cl_ HB.out hx328_1
        replace hx328_2 := cl_ HB.out hx328_2
        replace hx328_3 := cl_ HB.out hx328_3
        have HR328_0 := Aside0.mk hi328_0
        have HC328_0 := Aside0.mk hl328_0
        clear hi328_0 hl328_0
        replace p328 := eq_true p328
        replace q328 := eq_true q328
        try go_wp2_with (first | ((with_reducible refine gate_callee (f := 102) rfl ?_); refine goesL_ (some 18) rfl rfl Try.func102 (by kernel_rfl) rfl #[.slice A328_0 ((rd_T44 l0 x5_1).f0).length c328_0, .int .i64 x1_1] rfl (by (try simp only [mp_]); first | done | rfl | (simp only [List.length_drop, List.length_take]; rfl)) ?_; (with_reducible refine (laws_heldLabelS.calls k1 _ _ ((rd_T44 l0 x5_1).f0) x1_1 t329 _ ?side1 ?side2 A5.out).mono ?_); (case side1 => repeat (first | exact (Kd.C_below HR328_0.out HB.out) | (with_reducible first | refine ca_ ?_ _ | refine cn_ ?_ _ | refine cd_ ?_))); (case side2 => exact HC328_0.out); rintro e w11 ⟨rfl, hb⟩; refine ⟨_, rfl, ?_⟩; have n0_ := Aside0.mk (below_step (by repeat (first | (with_reducible first | exact HB.out | apply ba_ | apply bn_ | apply bd_) | exact HB.out)) hb); clear HB; have HB := n0_; clear n0_; (try clear hb); (try clear hb2); (try clear hk); (try clear hi); have p330 : 0 ≤ (x5_1 : Int) := of_decide_eq_true (by with_reducible assumption); have q330 : x5_1 < (l0.length : Int) := of_decide_eq_true (by with_reducible assumption); obtain ⟨ad330, A330_0, c330_0, e330, hx330_0, hx330_1, hx330_2, hx330_3, hl330_0, hi330_0⟩ := at_T44 HR0.out x5_1 p330 q330; obtain rfl : ad328 = ad330 := (by injection e330); replace hx330_0 := cl_ HB.out hx330_0; replace hx330_1 := cl_ HB.out hx330_1; replace hx330_2 := cl_ HB.out hx330_2; replace hx330_3 := cl_ HB.out hx330_3; have HR330_0 := Aside0.mk hi330_0; have HC330_0 := Aside0.mk hl330_0; clear hi330_0 hl330_0; replace p330 := eq_true p330; replace q330 := eq_true q330; have p331 : 0 ≤ (x5_1 : Int) := of_decide_eq_true (by with_reducible assumption); have q331 : x5_1 < (l0.length : Int) := of_decide_eq_true (by with_reducible assumption); obtain ⟨ad331, A331_0, c331_0, e331, hx331_0, hx331_1, hx331_2, hx331_3, hl331_0, hi331_0⟩ := at_T44 HR0.out x5_1 p331 q331; obtain rfl : ad328 = ad331 := (by injection e331); replace hx331_0 := cl_ HB.out hx331_0; replace hx331_1 := cl_ HB.out hx331_1; replace hx331_2 := cl_ HB.out hx331_2; replace hx331_3 := cl_ HB.out hx331_3; have HR331_0 := Aside0.mk hi331_0; have HC331_0 := Aside0.mk hl331_0; clear hi331_0 hl331_0; replace p331 := eq_true p331; replace q331 := eq_true q331; have ea_ := Option.some.inj (hx330_0.symm.trans hx331_0); injection ea_ with ea_ en_ ec_; subst ea_; subst ec_; clear en_))
        have n0_ := Aside0.mk (bd_ HB.out)
        clear HB
        have HB := n0_
        clear n0_
        have p332 : 0 ≤ (x5_1 : Int) := of_decide_eq_true (by with_reducible assumption)
        have q332 : x5_1 < (l0.length : Int) := of_decide_eq_true (by with_reducible assumption)
        obtain ⟨ad332, A332_0, c332_0, e332, hx332_0, hx332_1, hx332_2, hx332_3, hl332_0, hi332_0⟩ := at_T44 HR0.out x5_1 p332 q332
        have hw332_3 := hx332_3
        have hw332_2 := hx332_2
        have hw332_1 := hx332_1
        have hw332_0 := hx332_0
        obtain rfl : ad328 = ad332 := (by injection e332)
        replace hx332_0 := cl_ HB.out hx332_0
        replace hx332_1 := cl_ HB.out hx332_1
        replace hx332_2 := cl_ HB.out hx332_2
        replace hx332_3 := cl_ HB.out hx332_3
        have HR332_0 := Aside0.mk hi332_0
        have HC332_0 := Aside0.mk hl332_0
        clear hi332_0 hl332_0
        replace p332 := eq_true p332
        replace q332 := eq_true q332
        refine start_ (n := 8) (S := fun w' => w'.cell? (ad328.add ((x5_1).toNat * 4)) = some (.slice A332_0 ((rd_T44 l0 x5_1).f0).length c332_0) ∧ w'.cell? ⟨(ad328.add ((x5_1).toNat * 4)).block, (ad328.add ((x5_1).toNat * 4)).off + 1, none⟩ = some (.int .i64 ((rd_T44 l0 x5_1).f1)) ∧ w'.cell? ⟨(ad328.add ((x5_1).toNat * 4)).block, (ad328.add ((x5_1).toNat * 4)).off + 2, none⟩ = some (.int .i64 ((rd_T44 l0 x5_1).f2)) ∧ w'.cell? ⟨(ad328.add ((x5_1).toNat * 4)).block, (ad328.add ((x5_1).toNat * 4)).off + 3, none⟩ = some (.string ((rd_T44 l0 x5_1).f3))) (ds := []) #[f_,f_,f_,f_,f_,f_,f_,f_] (by kernel_rfl) rfl rfl ⟨((HB.out.cell (World.block_lt_of_cell? w _ hw332_0)).trans hw332_0), ((HB.out.cell (World.block_lt_of_cell? w _ hw332_1)).trans hw332_1), ((HB.out.cell (World.block_lt_of_cell? w _ hw332_2)).trans hw332_2), ((HB.out.cell (World.block_lt_of_cell? w _ hw332_3)).trans hw332_3)⟩ (fun hHeld => ?_); refine with_tabW laws_heldAlarmS.tab13 laws_heldAlarmS.bits13 (fun HT_ HW_ => ?_)
        generalize w11.drew = w12 at HB HR332_0 hx332_0 hx332_1 hx332_2 hx332_3 hHeld ⊢
        refine pu_ 0 39 ?_ (b_ 1 7) rfl rfl HT_.out ?_ ?_ ?_ ?_; rotate_left; intro w'; go_simp; with_reducible rfl; rotate_left; simp only [fr_]; rfl
        refine pu_ 1 40 ?_ (b_ 2 6) rfl rfl HT_.out ?_ ?_ ?_ ?_; rotate_left; intro w'; go_simp; with_reducible rfl; rotate_left; simp only [fr_]; rfl
        refine pu_ 2 41 ?_ (b_ 3 5) rfl rfl HT_.out ?_ ?_ ?_ ?_; rotate_left; intro w'; go_simp; with_reducible rfl; rotate_left; simp only [fr_]; rfl
        refine pu_ 3 42 ?_ (b_ 4 4) rfl rfl HT_.out ?_ ?_ ?_ ?_; rotate_left; intro w'; go_simp; with_reducible rfl; rotate_left; simp only [fr_]; rfl
        refine pu_ 5 44 ?_ #[t_,t_,t_,t_,f_,t_,f_,f_] rfl rfl HT_.out ?_ ?_ ?_ ?_; rotate_left; intro w'; go_simp; with_reducible rfl; rotate_left; simp only [fr_]; rfl
        refine take_ (i := 4) (N := some 43) (v := ?_) (a' := ?_) #[t_,t_,t_,t_,t_,t_,f_,f_] rfl rfl (take_ofW HT_.out HW_.out (by kernel_rfl)) (fun _ _ _ h => h) (Or.inl ⟨by rfl, ?_⟩) hHeld ?_ ?_
        rotate_left
        ·
         rintro w' ⟨s0, s1, s2, s3⟩
         go_simp
         with_reducible rfl
        rotate_left
        ·
         simp only [fr_]
         rfl
        refine one_ (i := 6) (N := some 45) #[t_,t_,t_,t_,t_,t_,t_,f_] rfl rfl (one_of HT_.out (by kernel_rfl)) (by decide) (fun K hK => ?_)
        refine goes_ Try.func103 (by kernel_rfl) rfl #[.int .i64 (wrap64 ((wrap64 (t329 + 1)) + 1))] (by rfl) rfl rfl (by (try simp only [mp_]); first | done | rfl | (simp only [List.length_drop, List.length_take]; rfl)) ?_
        with_reducible refine (laws_markText.calls k1 (wrap64 ((wrap64 (t329 + 1)) + 1)) t333 _ A9.out).mono ?_
        rintro e w13 ⟨rfl, hb⟩
        refine ⟨_, rfl, ?_⟩
        have n0_ := Aside0.mk (below_step (by repeat (first | (with_reducible first | exact HB.out | apply ba_ | apply bn_ | apply bd_) | exact HB.out)) hb)
        clear HB
        have HB := n0_
        clear n0_
        (try clear hb)
        (try clear hb2)
        (try clear hk)
        (try clear hi)
        refine hK.out _ _ ⟨((HB.out.cell (World.block_lt_of_cell? w _ hw332_0)).trans hw332_0), ((HB.out.cell (World.block_lt_of_cell? w _ hw332_1)).trans hw332_1), ((HB.out.cell (World.block_lt_of_cell? w _ hw332_2)).trans hw332_2), ((HB.out.cell (World.block_lt_of_cell? w _ hw332_3)).trans hw332_3)⟩ (fun hHeld => ?_)
        clear hK K
        refine norm_ (a' := ?_) ?_ ?_
        rotate_left
        ·
         show Act.put _ (some 45) _ = _
         simp only [fr_]
         rfl
        refine pu_ 7 46 ?_ (b_ 8 0) rfl rfl HT_.out ?_ ?_ ?_ ?_; rotate_left; intro w'; go_simp; with_reducible rfl; rotate_left; simp only [fr_]; rfl
        refine done_ (done_of HT_.out (by kernel_rfl)) ?_
        try go_wp2
        go_roundg k1
        case measure => have := HK1.out; omega
        case rel => exact ⟨(wrap64 ((wrap64 ((wrap64 (t329 + 1)) + 1)) + 1)), (wrap64 (x5_1 + 1)), (by first | rfl | (simp; done) | (simp [*]; done)), (by first | rfl | (simp; done) | (simp [*]; done)), H', ⟨by have := HK1.out; omega⟩, ⟨by repeat (first | (with_reducible first | exact HB.out | apply ba_ | apply bn_ | apply bd_) | exact HB.out)⟩⟩
       rw [if_neg c10] at H
       exact absurd H (by simp)
      rw [if_neg c8] at H
      exact absurd H (by simp)
     rw [if_neg c7] at H
     exact absurd H (by simp)
    rw [if_neg c4] at H
    exact absurd H (by simp)
   rw [if_neg c3] at H
   have c3b0 : decide (x5_1 < (l0.length : Int)) = false := decide_eq_false c3
   clear c3
   obtain rfl := Option.some.inj H
   go_wp2
   go_ret
   exact ⟨by first | rfl | (simp [errW_none, errW_some] <;> rfl) | (simp [*, errW_none, errW_some] <;> rfl), by repeat (first | (with_reducible first | exact HB.out | apply ba_ | apply bn_ | apply bd_) | exact HB.out)⟩
def laws_heldGroup.f (k : Nat) (a0_0 : Int) (l0_1 : List (S164)) (a0_2 : Int) (a0_3 : Int) (l0_4 : List (S44)) (a1 : Int) : Option (Int) := (laws_heldLabelS.f k l0_1 a1).bind fun t1056 => (if t1056 < 0 then (none) else ((laws_heldAlarmS.f k l0_4 t1056).bind fun t1057 => (if t1057 < 0 then (none) else (some t1057))))
theorem laws_heldGroup.mono : ∀ a0 a1 a2 a3 a4 a5 k, LeO (laws_heldGroup.f k a0 a1 a2 a3 a4 a5) (laws_heldGroup.f (k + 1) a0 a1 a2 a3 a4 a5) := by
 intro a0 a1 a2 a3 a4 a5 k
 unfold laws_heldGroup.f
 repeat' first
   | (with_reducible exact laws_heldAlarmS.mono _ _ _)
   | (with_reducible exact laws_heldLabelS.mono _ _ _)
   | (with_reducible exact LeO.refl _)
   | (with_reducible exact LeO.none _)
   | (with_reducible refine LeO.ite ?_ ?_)
   | (with_reducible refine LeO.bind ?_ (fun _ => ?_))
   | exact laws_heldAlarmS.mono _ _ _
   | exact laws_heldLabelS.mono _ _ _
theorem laws_heldGroup.calls (k : Nat) (a0_0 : Int) (A0_1 : Option Addr) (c0_1 : Nat) (l0_1 : List (S164)) (a0_2 : Int) (a0_3 : Int) (A0_4 : Option Addr) (c0_4 : Nat) (l0_4 : List (S44)) (a1 : Int) (r : Int) (w : World) (hr0_1 : Kd.C k164 w A0_1 l0_1.length l0_1) (hc0_1 : l0_1.length ≤ c0_1) (hr0_4 : Kd.C k44 w A0_4 l0_4.length l0_4) (hc0_4 : l0_4.length ≤ c0_4) (h : laws_heldGroup.f k a0_0 l0_1 a0_2 a0_3 l0_4 a1 = some r) :
  Calls Try.prog 59 #[.agg #[.int .i64 a0_0, .slice A0_1 l0_1.length c0_1, .int .i64 a0_2, .int .i64 a0_3, .slice A0_4 l0_4.length c0_4], .int .i64 a1] w fun e w' => e = .returned (.int .i64 r) ∧ Below w.heap.size w w' := by
 have hu75 := Try.underlying75
 have HR0_1 := Aside0.mk hr0_1
 have HC0_1 := Aside0.mk hc0_1
 clear hr0_1 hc0_1
 have HR0_4 := Aside0.mk hr0_4
 have HC0_4 := Aside0.mk hc0_4
 clear hr0_4 hc0_4
 have HB := Aside0.mk (Below.refl w.heap.size w)
 have H : ((laws_heldLabelS.f k l0_1 a1).bind fun t1056 => (if t1056 < 0 then (none) else ((laws_heldAlarmS.f k l0_4 t1056).bind fun t1057 => (if t1057 < 0 then (none) else (some t1057))))) = some r := h
 clear h
 replace H := Option.bind_eq_some_iff.mp H
 obtain ⟨t1056, A30, H⟩ := H
 have A3 := Aside0.mk A30
 clear A30
 by_cases c4 : t1056 < 0
 ·
  rw [if_pos c4] at H
  exact absurd H (by simp)
 rw [if_neg c4] at H
 have c4b0 : decide (t1056 < 0) = false := decide_eq_false c4
 clear c4
 replace H := Option.bind_eq_some_iff.mp H
 obtain ⟨t1057, A50, H⟩ := H
 have A5 := Aside0.mk A50
 clear A50
 by_cases c6 : t1057 < 0
 ·
  rw [if_pos c6] at H
  exact absurd H (by simp)
 rw [if_neg c6] at H
 have c6b0 : decide (t1057 < 0) = false := decide_eq_false c6
 clear c6
 obtain rfl := Option.some.inj H
 go_enter Try.func59, Try.ntmps59
 go_wp2_with (first | ((with_reducible refine gate_dst (N := 2) rfl ?_); refine box_event ?hg (N := 2) ?hd (cs := #[.int .i64 a0_0, .slice A0_1 l0_1.length c0_1, .int .i64 a0_2, .int .i64 a0_3, .slice A0_4 l0_4.length c0_4]) (t := 75) ?hr ?_; (case hd => rfl); (case hg => rfl); (case hr => first | (go_simp; done) | (go_simp; rfl)); intro gb1055 hg w7 hbox hb; have n0_ := Aside0.mk (below_step (by repeat (first | (with_reducible first | exact HB.out | apply ba_ | apply bn_ | apply bd_) | exact HB.out)) hb); have BK1055 := Aside0.mk (hbox); have GW1055 := Aside0.mk ((by rw [hg]; exact (below_size (by repeat (first | (with_reducible first | exact HB.out | apply ba_ | apply bn_ | apply bd_) | exact HB.out))) : w.heap.size ≤ gb1055)); have GE1055 := GW1055; clear HB; have HB := n0_; clear n0_; clear hb hbox hg; obtain ⟨hcz8_0, hcz8_1, hcz8_2, hcz8_3, hcz8_4, hfz8_0, hfz8_1, hfz8_2, hfz8_3, hfz8_4⟩ := bc5_ BK1055.out) | ((with_reducible refine gate_callee (f := 102) rfl ?_); refine goesL_ (some 8) rfl rfl Try.func102 (by kernel_rfl) rfl #[.slice A0_1 l0_1.length c0_1, .int .i64 a1] rfl (by (try simp only [mp_]); first | done | rfl | (simp only [List.length_drop, List.length_take]; rfl)) ?_; (with_reducible refine (laws_heldLabelS.calls k _ _ l0_1 a1 t1056 _ ?side1 ?side2 A3.out).mono ?_); (case side1 => repeat (first | exact (Kd.C_below HR0_1.out HB.out) | (with_reducible first | refine ca_ ?_ _ | refine cn_ ?_ _ | refine cd_ ?_))); (case side2 => exact HC0_1.out); rintro e w9 ⟨rfl, hb⟩; refine ⟨_, rfl, ?_⟩; have n0_ := Aside0.mk (bb_ BK1055.out hb); have n1_ := Aside0.mk (below_step (by repeat (first | (with_reducible first | exact HB.out | apply ba_ | apply bn_ | apply bd_ | refine below_set ?_ GE1055.out) | exact HB.out)) hb); clear BK1055 HB; have BK1055 := n0_; have HB := n1_; clear n0_ n1_; (try clear hb); (try clear hb2); (try clear hk); (try clear hi); obtain ⟨hcz10_0, hcz10_1, hcz10_2, hcz10_3, hcz10_4, hfz10_0, hfz10_1, hfz10_2, hfz10_3, hfz10_4⟩ := bc5_ BK1055.out) | ((with_reducible refine gate_callee (f := 40) rfl ?_); refine goesL_ (some 14) rfl rfl Try.func40 (by kernel_rfl) rfl #[.slice A0_4 l0_4.length c0_4, .int .i64 t1056] rfl (by (try simp only [mp_]); first | done | rfl | (simp only [List.length_drop, List.length_take]; rfl)) ?_; (with_reducible refine (laws_heldAlarmS.calls k _ _ l0_4 t1056 t1057 _ ?side1 ?side2 A5.out).mono ?_); (case side1 => repeat (first | exact (Kd.C_below HR0_4.out HB.out) | (with_reducible first | refine ca_ ?_ _ | refine cn_ ?_ _ | refine cd_ ?_))); (case side2 => exact HC0_4.out); rintro e w11 ⟨rfl, hb⟩; refine ⟨_, rfl, ?_⟩; have n0_ := Aside0.mk (bb_ BK1055.out hb); have n1_ := Aside0.mk (below_step (by repeat (first | (with_reducible first | exact HB.out | apply ba_ | apply bn_ | apply bd_ | refine below_set ?_ GE1055.out) | exact HB.out)) hb); clear BK1055 HB; have BK1055 := n0_; have HB := n1_; clear n0_ n1_; (try clear hb); (try clear hb2); (try clear hk); (try clear hi)))
 go_ret
 exact ⟨by first | rfl | (simp [errW_none, errW_some] <;> rfl) | (simp [*, errW_none, errW_some] <;> rfl), by repeat (first | (with_reducible first | exact HB.out | apply ba_ | apply bn_ | apply bd_ | refine below_set ?_ GE1055.out) | exact HB.out)⟩
end Go.Proofs.Ytfholjcelnkleaa.Print
end
