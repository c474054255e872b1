-- Written by printx.py, a program of this session (wip/gen), over the kit's print.py.
import Derived.Test.YtmmaondenopnpaaF0
import Derived.Test.YtmmaondenopnpaaF7
namespace Go.Proofs.Ytmmaondenopnpaa.Print
open Go.RowKit Go.Proofs.YtmmaondenopnpaaV.PrintWords Go.Proofs.YtmmaondenopnpaaV.PrintLast Go.Proofs.YtmmaondenopnpaaV.PrintMore
attribute [local go_sem] max2_int min2_int max_two min_two max_three min_three max_four min_four   -- for this text's walks alone
set_option linter.unusedVariables false
set_option linter.unusedSimpArgs false

/-! ### spec_MemberOf: function 62 -/
mutual
def spec_MemberOf.l0 : Nat → List (S68) → List (S116) → Int → Option (Int)
 | 0, _, _, _ => none
 | k + 1, x0, x1, x5 => if x5 < (x0.length : Int) then (spec_MemberOf.l1 k x0 x1 x5 0) else (some (-1))
def spec_MemberOf.l1 : Nat → List (S68) → List (S116) → Int → Int → Option (Int)
 | 0, _, _, _, _ => none
 | k + 1, x0, x1, x5, x6 => if 0 ≤ x5 then (if x5 < (x0.length : Int) then (if x6 < (((rd_T68 x0 x5).f4).length : Int) then (if 0 ≤ x6 then ((spec_SameSet.f k ((rd_T57 ((rd_T68 x0 x5).f4) x6).f0) x1).bind fun t806 => (if t806 = true then (some ((rd_T68 x0 x5).f0)) else (spec_MemberOf.l1 k x0 x1 x5 (wrap64 (x6 + 1))))) else (none)) else (spec_MemberOf.l0 k x0 x1 (wrap64 (x5 + 1)))) else (none)) else (none)
end
def spec_MemberOf.f (k : Nat) (l0 : List (S68)) (l1 : List (S116)) : Option (Int) := spec_MemberOf.l0 k l0 l1 0
theorem spec_MemberOf.mono_l : ∀ k, (∀ y0 y1 y2, LeO (spec_MemberOf.l0 k y0 y1 y2) (spec_MemberOf.l0 (k + 1) y0 y1 y2)) ∧ (∀ y0 y1 y2 y3, LeO (spec_MemberOf.l1 k y0 y1 y2 y3) (spec_MemberOf.l1 (k + 1) y0 y1 y2 y3))
 | 0 => ⟨fun _ _ _ r h => by simp [spec_MemberOf.l0] at h, fun _ _ _ _ r h => by simp [spec_MemberOf.l1] at h⟩
 | k + 1 => by
  obtain ⟨ih0, ih1⟩ := spec_MemberOf.mono_l k
  refine ⟨?_, ?_⟩
  ·
   intro y0 y1 y2
   unfold spec_MemberOf.l0
   repeat' first
   | (with_reducible exact ih0 _ _ _)
   | (with_reducible exact ih1 _ _ _ _)
   | (with_reducible exact spec_SameSet.mono _ _ _)
   | (with_reducible exact LeO.refl _)
   | (with_reducible exact LeO.none _)
   | (with_reducible refine LeO.ite ?_ ?_)
   | (with_reducible refine LeO.bind ?_ (fun _ => ?_))
   | exact ih0 _ _ _
   | exact ih1 _ _ _ _
   | exact spec_SameSet.mono _ _ _
   | exact LeO.none _
   | refine LeO.ite ?_ ?_
   | refine LeO.bind ?_ (fun _ => ?_)
  ·
   intro y0 y1 y2 y3
   unfold spec_MemberOf.l1
   repeat' first
   | (with_reducible exact ih0 _ _ _)
   | (with_reducible exact ih1 _ _ _ _)
   | (with_reducible exact spec_SameSet.mono _ _ _)
   | (with_reducible exact LeO.refl _)
   | (with_reducible exact LeO.none _)
   | (with_reducible refine LeO.ite ?_ ?_)
   | (with_reducible refine LeO.bind ?_ (fun _ => ?_))
   | exact ih0 _ _ _
   | exact ih1 _ _ _ _
   | exact spec_SameSet.mono _ _ _
   | exact LeO.none _
   | refine LeO.ite ?_ ?_
   | refine LeO.bind ?_ (fun _ => ?_)
theorem spec_MemberOf.mono : ∀ a0 a1 k, LeO (spec_MemberOf.f k a0 a1) (spec_MemberOf.f (k + 1) a0 a1) := by
 intro a0 a1 k
 obtain ⟨ih0, ih1⟩ := spec_MemberOf.mono_l k
 unfold spec_MemberOf.f
 repeat' first
   | (with_reducible exact ih0 _ _ _)
   | (with_reducible exact ih1 _ _ _ _)
   | (with_reducible exact spec_SameSet.mono _ _ _)
   | (with_reducible exact LeO.refl _)
   | (with_reducible exact LeO.none _)
   | (with_reducible refine LeO.ite ?_ ?_)
   | (with_reducible refine LeO.bind ?_ (fun _ => ?_))
   | exact ih0 _ _ _
   | exact ih1 _ _ _ _
   | exact spec_SameSet.mono _ _ _
   | exact LeO.none _
   | refine LeO.ite ?_ ?_
   | refine LeO.bind ?_ (fun _ => ?_)
set_option maxHeartbeats 8000000 in
set_option maxRecDepth 100000 in
theorem spec_MemberOf.calls (k : Nat) (A0 : Option Addr) (c0 : Nat) (l0 : List (S68)) (A1 : Option Addr) (c1 : Nat) (l1 : List (S116)) (r : Int) (w : World) (hr0 : Kd.C k68 w A0 l0.length l0) (hc0 : l0.length ≤ c0) (hr1 : Kd.C k116 w A1 l1.length l1) (hc1 : l1.length ≤ c1) (h : spec_MemberOf.f k l0 l1 = some r) :
  Calls Try.prog 62 #[.slice A0 l0.length c0, .slice A1 l1.length c1] w fun e w' => e = .returned (.int .i64 r) ∧ Drawn0 w w' := by
 have HR0 := Aside0.mk hr0
 have HC0 := Aside0.mk hc0
 clear hr0 hc0
 have HR1 := Aside0.mk hr1
 have HC1 := Aside0.mk hc1
 clear hr1 hc1
 have H : (spec_MemberOf.l0 k l0 l1 0) = some r := h
 clear h
 have H' := Aside0.mk H
 clear H
 go_enter Try.func62, Try.ntmps62
 go_wp2
 go_loopg [5] k (fun kq v5 w' => ∃ (x5_1 : Int), v5 = .int .i64 x5_1 ∧ Aside0 (spec_MemberOf.l0 kq l0 l1 x5_1 = some r) ∧ Aside0 (kq ≤ k) ∧ Drawn0 w w')
 case atStart => exact ⟨(0), (by first | rfl | (simp; done) | (simp [*]; done)), H', ⟨Nat.le_refl _⟩, by repeat (first | exact Drawn0.refl _ | apply Drawn0.step)⟩
 case round =>
  clear H'
  try clear c1
  try clear p2
  obtain ⟨x5_1, rfl, HA, HK1, ⟨m1, rfl⟩⟩ := hrel
  cases gk with
  | zero => exact absurd HA.out (by simp [spec_MemberOf.l0])
  | succ k1 =>
   have H := HA.out
   clear HA
   simp only [spec_MemberOf.l0] at H
   by_cases c3 : x5_1 < (l0.length : Int)
   ·
    rw [if_pos c3] at H
    have c3b0 : decide (x5_1 < (l0.length : Int)) = true := decide_eq_true c3
    clear c3
    have H' := Aside0.mk H
    clear H
    go_wp2
    go_loopg [6] k1 (fun kq v6 w' => ∃ (x6_2 : Int), v6 = .int .i64 x6_2 ∧ Aside0 (spec_MemberOf.l1 kq l0 l1 x5_1 x6_2 = some r) ∧ Aside0 (kq ≤ k1) ∧ Drawn0 w w')
    case atStart => exact ⟨(0), (by first | rfl | (simp; done) | (simp [*]; done)), H', ⟨Nat.le_refl _⟩, by repeat (first | exact Drawn0.refl _ | apply Drawn0.step)⟩
    case round =>
     clear H'
     try clear c1
     try clear p2
     try clear c3
     try clear c3b0
     try clear p2
     obtain ⟨x6_2, rfl, HA, HK2, ⟨m2, rfl⟩⟩ := hrel
     cases gk with
     | zero => exact absurd HA.out (by simp [spec_MemberOf.l1])
     | succ k2 =>
      have H := HA.out
      clear HA
      simp only [spec_MemberOf.l1] at H
      by_cases c4 : 0 ≤ x5_1
      ·
       rw [if_pos c4] at H
       have c4b0 : decide (0 ≤ x5_1) = true := decide_eq_true c4
       clear c4
       by_cases c5 : x5_1 < (l0.length : Int)
       ·
        rw [if_pos c5] at H
        have c5b0 : decide (x5_1 < (l0.length : Int)) = true := decide_eq_true c5
        clear c5
        by_cases c6 : x6_2 < (((rd_T68 l0 x5_1).f4).length : Int)
        ·
         rw [if_pos c6] at H
         have c6b0 : decide (x6_2 < (((rd_T68 l0 x5_1).f4).length : Int)) = true := decide_eq_true c6
         clear c6
         by_cases c7 : 0 ≤ x6_2
         ·
          rw [if_pos c7] at H
          have c7b0 : decide (0 ≤ x6_2) = true := decide_eq_true c7
          clear c7
          replace H := Option.bind_eq_some_iff.mp H
          obtain ⟨t806, A80, H⟩ := H
          replace H : (if t806 = true then (some ((rd_T68 l0 x5_1).f0)) else (spec_MemberOf.l1 k2 l0 l1 x5_1 (wrap64 (x6_2 + 1)))) = some r := H
          have A8 := Aside0.mk A80
          clear A80
          by_cases c9 : t806 = true
          ·
           subst c9
           have H1 : (some ((rd_T68 l0 x5_1).f0)) = some r := by rw [if_pos rfl] at H; exact H
           clear H
           have H := H1
           clear H1
           obtain rfl := Option.some.inj H
           have p803 : 0 ≤ (x5_1 : Int) := of_decide_eq_true (by first | (with_reducible assumption) | assumption)
           have q803 : x5_1 < (l0.length : Int) := of_decide_eq_true (by first | (with_reducible assumption) | assumption)
           obtain ⟨ad803, A803_1, c803_1, A803_4, c803_4, e803, hx803_0, hx803_1, hx803_2, hx803_3, hx803_4, hl803_1, hi803_1, hl803_4, hi803_4⟩ := at_T68 HR0.out x5_1 p803 q803
           cases e803
           have HR803_1 := Aside0.mk hi803_1
           have HC803_1 := Aside0.mk hl803_1
           clear hi803_1 hl803_1
           have HR803_4 := Aside0.mk hi803_4
           have HC803_4 := Aside0.mk hl803_4
           clear hi803_4 hl803_4
           replace p803 := eq_true p803
           replace q803 := eq_true q803
           have p804 : 0 ≤ (x5_1 : Int) := of_decide_eq_true (by first | (with_reducible assumption) | assumption)
           have q804 : x5_1 < (l0.length : Int) := of_decide_eq_true (by first | (with_reducible assumption) | assumption)
           obtain ⟨ad804, A804_1, c804_1, A804_4, c804_4, e804, hx804_0, hx804_1, hx804_2, hx804_3, hx804_4, hl804_1, hi804_1, hl804_4, hi804_4⟩ := at_T68 HR0.out x5_1 p804 q804
           obtain rfl : ad803 = ad804 := (by injection e804)
           have HR804_1 := Aside0.mk hi804_1
           have HC804_1 := Aside0.mk hl804_1
           clear hi804_1 hl804_1
           have HR804_4 := Aside0.mk hi804_4
           have HC804_4 := Aside0.mk hl804_4
           clear hi804_4 hl804_4
           replace p804 := eq_true p804
           replace q804 := eq_true q804
           have ea_ := Option.some.inj (hx803_1.symm.trans hx804_1)
           injection ea_ with ea_ en_ ec_
           subst ea_
           subst ec_
           clear en_
           have ea_ := Option.some.inj (hx803_4.symm.trans hx804_4)
           injection ea_ with ea_ en_ ec_
           subst ea_
           subst ec_
           clear en_
           have p805 : 0 ≤ (x6_2 : Int) := of_decide_eq_true (by first | (with_reducible assumption) | assumption)
           have q805 : x6_2 < (((rd_T68 l0 x5_1).f4).length : Int) := of_decide_eq_true (by first | (with_reducible assumption) | assumption)
           obtain ⟨ad805, A805_0, c805_0, e805, hx805_0, hx805_1, hx805_2, hx805_3, hl805_0, hi805_0⟩ := at_T57 HR804_4.out x6_2 p805 q805
           cases e805
           have HR805_0 := Aside0.mk hi805_0
           have HC805_0 := Aside0.mk hl805_0
           clear hi805_0 hl805_0
           replace p805 := eq_true p805
           replace q805 := eq_true q805
           go_wp2_with (first | ((with_reducible refine gate_callee (f := 71) rfl ?_); refine goesL_ (some 33) rfl rfl Try.func71 (by kernel_rfl) rfl #[.slice A805_0 ((rd_T57 ((rd_T68 l0 x5_1).f4) x6_2).f0).length c805_0, .slice A1 l1.length c1] rfl (by (try simp only [List.map_toArray, List.map_cons, List.map_nil]); first | done | rfl | (simp only [List.length_drop, List.length_take]; rfl)) ?_; (with_reducible refine (spec_SameSet.calls k2 _ _ ((rd_T57 ((rd_T68 l0 x5_1).f4) x6_2).f0) _ _ l1 true _ ?side1 ?side2 ?side3 ?side4 A8.out).mono ?_); (case side1 => repeat (first | exact HR805_0.out | (with_reducible refine Kd.C_alloc ?_ _) | (with_reducible refine Kd.C_drewN ?_ _) | (with_reducible refine Kd.C_drew ?_))); (case side2 => exact HC805_0.out); (case side3 => repeat (first | exact HR1.out | (with_reducible refine Kd.C_alloc ?_ _) | (with_reducible refine Kd.C_drewN ?_ _) | (with_reducible refine Kd.C_drew ?_))); (case side4 => exact HC1.out); rintro e w' ⟨rfl, ⟨nd, rfl⟩⟩; refine ⟨_, rfl, ?_⟩; have p807 : 0 ≤ (x5_1 : Int) := of_decide_eq_true (by first | (with_reducible assumption) | assumption); have q807 : x5_1 < (l0.length : Int) := of_decide_eq_true (by first | (with_reducible assumption) | assumption); obtain ⟨ad807, A807_1, c807_1, A807_4, c807_4, e807, hx807_0, hx807_1, hx807_2, hx807_3, hx807_4, hl807_1, hi807_1, hl807_4, hi807_4⟩ := at_T68 HR0.out x5_1 p807 q807; obtain rfl : ad803 = ad807 := (by injection e807); have HR807_1 := Aside0.mk hi807_1; have HC807_1 := Aside0.mk hl807_1; clear hi807_1 hl807_1; have HR807_4 := Aside0.mk hi807_4; have HC807_4 := Aside0.mk hl807_4; clear hi807_4 hl807_4; replace p807 := eq_true p807; replace q807 := eq_true q807; have ea_ := Option.some.inj (hx803_1.symm.trans hx807_1); injection ea_ with ea_ en_ ec_; subst ea_; subst ec_; clear en_; have ea_ := Option.some.inj (hx803_4.symm.trans hx807_4); injection ea_ with ea_ en_ ec_; subst ea_; subst ec_; clear en_))
           go_ret
           exact ⟨by first | rfl | (simp; done) | (simp [*]; done), by repeat (first | exact Drawn0.refl _ | apply Drawn0.step)⟩
          ·
           replace c9 := Bool.eq_false_iff.mpr c9
           subst c9
           have H1 : (spec_MemberOf.l1 k2 l0 l1 x5_1 (wrap64 (x6_2 + 1))) = some r := by rw [if_neg (show ¬ (false = true) by decide)] at H; exact H
           clear H
           have H := H1
           clear H1
           have H' := Aside0.mk H
           clear H
           have p803 : 0 ≤ (x5_1 : Int) := of_decide_eq_true (by first | (with_reducible assumption) | assumption)
           have q803 : x5_1 < (l0.length : Int) := of_decide_eq_true (by first | (with_reducible assumption) | assumption)
           obtain ⟨ad803, A803_1, c803_1, A803_4, c803_4, e803, hx803_0, hx803_1, hx803_2, hx803_3, hx803_4, hl803_1, hi803_1, hl803_4, hi803_4⟩ := at_T68 HR0.out x5_1 p803 q803
           cases e803
           have HR803_1 := Aside0.mk hi803_1
           have HC803_1 := Aside0.mk hl803_1
           clear hi803_1 hl803_1
           have HR803_4 := Aside0.mk hi803_4
           have HC803_4 := Aside0.mk hl803_4
           clear hi803_4 hl803_4
           replace p803 := eq_true p803
           replace q803 := eq_true q803
           have p804 : 0 ≤ (x5_1 : Int) := of_decide_eq_true (by first | (with_reducible assumption) | assumption)
           have q804 : x5_1 < (l0.length : Int) := of_decide_eq_true (by first | (with_reducible assumption) | assumption)
           obtain ⟨ad804, A804_1, c804_1, A804_4, c804_4, e804, hx804_0, hx804_1, hx804_2, hx804_3, hx804_4, hl804_1, hi804_1, hl804_4, hi804_4⟩ := at_T68 HR0.out x5_1 p804 q804
           obtain rfl : ad803 = ad804 := (by injection e804)
           have HR804_1 := Aside0.mk hi804_1
           have HC804_1 := Aside0.mk hl804_1
           clear hi804_1 hl804_1
           have HR804_4 := Aside0.mk hi804_4
           have HC804_4 := Aside0.mk hl804_4
           clear hi804_4 hl804_4
           replace p804 := eq_true p804
           replace q804 := eq_true q804
           have ea_ := Option.some.inj (hx803_1.symm.trans hx804_1)
           injection ea_ with ea_ en_ ec_
           subst ea_
           subst ec_
           clear en_
           have ea_ := Option.some.inj (hx803_4.symm.trans hx804_4)
           injection ea_ with ea_ en_ ec_
           subst ea_
           subst ec_
           clear en_
           have p805 : 0 ≤ (x6_2 : Int) := of_decide_eq_true (by first | (with_reducible assumption) | assumption)
           have q805 : x6_2 < (((rd_T68 l0 x5_1).f4).length : Int) := of_decide_eq_true (by first | (with_reducible assumption) | assumption)
           obtain ⟨ad805, A805_0, c805_0, e805, hx805_0, hx805_1, hx805_2, hx805_3, hl805_0, hi805_0⟩ := at_T57 HR804_4.out x6_2 p805 q805
           cases e805
           have HR805_0 := Aside0.mk hi805_0
           have HC805_0 := Aside0.mk hl805_0
           clear hi805_0 hl805_0
           replace p805 := eq_true p805
           replace q805 := eq_true q805
           go_wp2_with (first | ((with_reducible refine gate_callee (f := 71) rfl ?_); refine goesL_ (some 33) rfl rfl Try.func71 (by kernel_rfl) rfl #[.slice A805_0 ((rd_T57 ((rd_T68 l0 x5_1).f4) x6_2).f0).length c805_0, .slice A1 l1.length c1] rfl (by (try simp only [List.map_toArray, List.map_cons, List.map_nil]); first | done | rfl | (simp only [List.length_drop, List.length_take]; rfl)) ?_; (with_reducible refine (spec_SameSet.calls k2 _ _ ((rd_T57 ((rd_T68 l0 x5_1).f4) x6_2).f0) _ _ l1 false _ ?side1 ?side2 ?side3 ?side4 A8.out).mono ?_); (case side1 => repeat (first | exact HR805_0.out | (with_reducible refine Kd.C_alloc ?_ _) | (with_reducible refine Kd.C_drewN ?_ _) | (with_reducible refine Kd.C_drew ?_))); (case side2 => exact HC805_0.out); (case side3 => repeat (first | exact HR1.out | (with_reducible refine Kd.C_alloc ?_ _) | (with_reducible refine Kd.C_drewN ?_ _) | (with_reducible refine Kd.C_drew ?_))); (case side4 => exact HC1.out); rintro e w' ⟨rfl, ⟨nd, rfl⟩⟩; refine ⟨_, rfl, ?_⟩))
           go_roundg k2
           case measure => have := HK1.out; have := HK2.out; omega
           case rel => exact ⟨(wrap64 (x6_2 + 1)), (by first | rfl | (simp; done) | (simp [*]; done)), H', ⟨by have := HK1.out; have := HK2.out; omega⟩, by repeat (first | exact Drawn0.refl _ | apply Drawn0.step)⟩
         ·
          rw [if_neg c7] at H
          exact absurd H (by simp)
        ·
         rw [if_neg c6] at H
         have c6b0 : decide (x6_2 < (((rd_T68 l0 x5_1).f4).length : Int)) = false := decide_eq_false c6
         clear c6
         have H' := Aside0.mk H
         clear H
         have p803 : 0 ≤ (x5_1 : Int) := of_decide_eq_true (by first | (with_reducible assumption) | assumption)
         have q803 : x5_1 < (l0.length : Int) := of_decide_eq_true (by first | (with_reducible assumption) | assumption)
         obtain ⟨ad803, A803_1, c803_1, A803_4, c803_4, e803, hx803_0, hx803_1, hx803_2, hx803_3, hx803_4, hl803_1, hi803_1, hl803_4, hi803_4⟩ := at_T68 HR0.out x5_1 p803 q803
         cases e803
         have HR803_1 := Aside0.mk hi803_1
         have HC803_1 := Aside0.mk hl803_1
         clear hi803_1 hl803_1
         have HR803_4 := Aside0.mk hi803_4
         have HC803_4 := Aside0.mk hl803_4
         clear hi803_4 hl803_4
         replace p803 := eq_true p803
         replace q803 := eq_true q803
         go_wp2
         go_roundg k2
         case measure => have := HK1.out; have := HK2.out; omega
         case rel => exact ⟨(wrap64 (x5_1 + 1)), (by first | rfl | (simp; done) | (simp [*]; done)), H', ⟨by have := HK1.out; have := HK2.out; omega⟩, by repeat (first | exact Drawn0.refl _ | apply Drawn0.step)⟩
       ·
        rw [if_neg c5] at H
        exact absurd H (by simp)
      ·
       rw [if_neg c4] at H
       exact absurd H (by simp)
   ·
    rw [if_neg c3] at H
    have c3b0 : decide (x5_1 < (l0.length : Int)) = false := decide_eq_false c3
    clear c3
    obtain rfl := Option.some.inj H
    go_wp2
    go_ret
    exact ⟨by first | rfl | (simp; done) | (simp [*]; done), by repeat (first | exact Drawn0.refl _ | apply Drawn0.step)⟩

end Go.Proofs.Ytmmaondenopnpaa.Print
