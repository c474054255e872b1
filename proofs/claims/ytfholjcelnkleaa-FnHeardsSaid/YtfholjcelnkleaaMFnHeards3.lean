import Derived.Test.YtfholjcelnkleaaMFnHeards1
import Derived.Test.YtfholjcelnkleaaMFnHeards2
section
namespace Go.Proofs.Ytfholjcelnkleaa.Print
open Go.RowKit Go.Proofs.YtfholjcelnkleaaV.PrintWords Go.Proofs.YtfholjcelnkleaaV.PrintLast Go.Proofs.YtfholjcelnkleaaV.PrintMore
attribute [local go_sem] max2_int min2_int max_two min_two max_three min_three max_four min_four
set_option linter.unusedVariables false
set_option linter.unusedSimpArgs false
set_option maxHeartbeats 8000000
set_option maxRecDepth 100000
def spec_l9Draw.l0 : Nat → Int → List Int → Int → Int → List (S44) → Bool → Option ((List (S44)) × Bool × Int × Int)
 | 0, _, _, _, _, _, _ => none
 | k + 1, x4, x1000, x1001, x1002, x1620000, x1620001 => if x4 > 0 then ((spec_l4Draw.f k x1000 x1001 x1002).bind fun bt1623 => ((spec_Tell.f k x1620000 x1620001 bt1623.1 bt1623.2.1 bt1623.2.2.1 bt1623.2.2.2.1).bind fun bt1631 => (spec_l9Draw.l0 k (wrap64 (x4 - 1)) x1000 bt1623.2.2.2.2.1 bt1623.2.2.2.2.2 bt1631.1 bt1631.2))) else (some (x1620000, x1620001, x1001, x1002))
def spec_l9Draw.f (k : Nat) (s0_0 : List Int) (s0_1 : Int) (s0_2 : Int) : Option ((List (S44)) × Bool × Int × Int) := (spec_l1Below.f s0_0 s0_1 s0_2 6).bind fun bt1620 => (spec_l9Draw.l0 k bt1620.1 s0_0 bt1620.2.1 bt1620.2.2 ([] : List (S44)) false)
theorem spec_l9Draw.mono_l : ∀ k, (∀ y0 y1 y2 y3 y4 y5, LeO (spec_l9Draw.l0 k y0 y1 y2 y3 y4 y5) (spec_l9Draw.l0 (k + 1) y0 y1 y2 y3 y4 y5))
 | 0 => fun _ _ _ _ _ _ r h => by simp [spec_l9Draw.l0] at h
 | k + 1 => by
  have ih0 := spec_l9Draw.mono_l k
  intro y0 y1 y2 y3 y4 y5
  unfold spec_l9Draw.l0
  repeat' first
  | (with_reducible exact ih0 _ _ _ _ _ _)
  | (with_reducible exact spec_Tell.mono _ _ _ _ _ _ _)
  | (with_reducible exact spec_l4Draw.mono _ _ _ _)
  | (with_reducible exact LeO.refl _)
  | (with_reducible exact LeO.none _)
  | (with_reducible refine LeO.ite ?_ ?_)
  | (with_reducible refine LeO.bind ?_ (fun _ => ?_))
  | exact ih0 _ _ _ _ _ _
  | exact spec_Tell.mono _ _ _ _ _ _ _
  | exact spec_l4Draw.mono _ _ _ _
theorem spec_l9Draw.mono : ∀ a0 a1 a2 k, LeO (spec_l9Draw.f k a0 a1 a2) (spec_l9Draw.f (k + 1) a0 a1 a2) := by
 intro a0 a1 a2 k
 have ih0 := spec_l9Draw.mono_l k
 unfold spec_l9Draw.f
 repeat' first
   | (with_reducible exact ih0 _ _ _ _ _ _)
   | (with_reducible exact spec_Tell.mono _ _ _ _ _ _ _)
   | (with_reducible exact spec_l4Draw.mono _ _ _ _)
   | (with_reducible exact LeO.refl _)
   | (with_reducible exact LeO.none _)
   | (with_reducible refine LeO.ite ?_ ?_)
   | (with_reducible refine LeO.bind ?_ (fun _ => ?_))
   | exact ih0 _ _ _ _ _ _
   | exact spec_Tell.mono _ _ _ _ _ _ _
   | exact spec_l4Draw.mono _ _ _ _
theorem spec_l9Draw.calls (k : Nat) (g : Nat) (s0_0 : List Int) (s0_1 : Int) (s0_2 : Int) (r1 : List (S44)) (r2 : Bool) (r3 : Int) (r4 : Int) (w0 w : World) (hI : IsS173 w0 w g s0_0 s0_1 s0_2) (hB : Below w0.heap.size w0 w) (h : spec_l9Draw.f k s0_0 s0_1 s0_2 = some (r1, r2, r3, r4)) :
  Calls Try.prog 158 #[.pointer (some ⟨g, 0, none⟩)] w fun e w' => ∃ v0_ : Value, e = .returned (.agg #[v0_, .bool r2]) ∧ Kd.S k44 44 w' w.heap.size (fun _ => True) v0_ r1 ∧ IsS173 w0 w' g s0_0 r3 r4 ∧ Below w0.heap.size w0 w' ∧ KeepBut w w' g none := by
 have hu39 := Try.underlying39
 have HI0 := Aside0.mk hI
 have HK := Aside0.mk (KeepBut.refl w g none)
 have HL := Aside0.mk hB.size
 clear hI
 have HW0 := Aside0.mk hB.size
 have HB := Aside0.mk hB
 clear hB
 have H : ((spec_l1Below.f s0_0 s0_1 s0_2 6).bind fun bt1620 => (spec_l9Draw.l0 k bt1620.1 s0_0 bt1620.2.1 bt1620.2.2 ([] : List (S44)) false)) = some (r1, r2, r3, r4) := h
 clear h
 replace H := Option.bind_eq_some_iff.mp H
 obtain ⟨⟨t1620, t1621, t1622⟩, A20, H⟩ := H
 have A2 := Aside0.mk A20
 clear A20
 have H' := Aside0.mk H
 clear H
 go_enter Try.func158, Try.ntmps158
 go_wp2_with (first | ((with_reducible refine gate_dst (N := 2) rfl ?_); refine box_event ?hg (N := 2) ?hd (cs := #[.slice none 0 0, .bool false]) (t := 39) ?hr ?_; (case hd => rfl); (case hg => rfl); (case hr => first | (go_simp; done) | (go_simp; rfl)); intro gb1618 hg w3 hbox hb; have n0_ := Aside0.mk (IsS173.below (by repeat (first | (with_reducible first | exact HI0.out | apply IsS173.alloc | apply IsS173.drewN | apply IsS173.drew | apply IsS173.set_1 | apply IsS173.set_2) | exact HI0.out)) hb); have n1_ := Aside0.mk (KeepBut.trans (by repeat (first | (with_reducible first | exact HK.out | apply KeepBut.set_ | apply keep_drewN | apply keep_drew | apply keep_alloc) | exact HK.out)) (KeepBut.of_below hb g none) (.inl rfl)); have n2_ := Aside0.mk (below_step (by repeat (first | (with_reducible first | exact HB.out | apply ba_ | apply bn_ | apply bd_ | refine below_set ?_ (IsS173.ge HI0.out)) | exact HB.out)) hb); have n3_ := Aside0.mk (hbox); have n4_ := Aside0.mk ((by rw [hg]; exact (keep_size (w := w) (g := g) (row := none) (by repeat (first | (with_reducible first | exact HK.out | apply KeepBut.set_ | apply keep_drewN | apply keep_drew | apply keep_alloc) | exact HK.out))) : w.heap.size ≤ gb1618)); have n5_ := Aside0.mk ((Nat.le_trans HW0.out (by rw [hg]; exact (keep_size (w := w) (g := g) (row := none) (by repeat (first | (with_reducible first | exact HK.out | apply KeepBut.set_ | apply keep_drewN | apply keep_drew | apply keep_alloc) | exact HK.out))) : w.heap.size ≤ gb1618) : w0.heap.size ≤ gb1618)); have n6_ := Aside0.mk ((by rw [hg]; exact Nat.ne_of_lt (IsS173.lt (show IsS173 w0 _ g s0_0 s0_1 s0_2 from by repeat (first | (with_reducible first | exact HI0.out | apply IsS173.alloc | apply IsS173.drewN | apply IsS173.drew | apply IsS173.set_1 | apply IsS173.set_2) | exact HI0.out))) : g ≠ gb1618)); have n7_ := Aside0.mk ((by rw [hg]; exact Nat.ne_of_gt (IsS173.lt (show IsS173 w0 _ g s0_0 s0_1 s0_2 from by repeat (first | (with_reducible first | exact HI0.out | apply IsS173.alloc | apply IsS173.drewN | apply IsS173.drew | apply IsS173.set_1 | apply IsS173.set_2) | exact HI0.out))) : gb1618 ≠ g)); clear HI0; clear HK; clear HB; have HI0 := n0_; have HK := n1_; have HB := n2_; have BK1618 := n3_; have GW1618 := n4_; have GE1618 := n5_; have NB0_1618 := n6_; have NB1618_0 := n7_; clear n0_ n1_ n2_ n3_ n4_ n5_ n6_ n7_; clear hb hbox hg) | ((with_reducible refine gate_dst (N := 3) rfl ?_); refine box_event ?hg (N := 3) ?hd (cs := #[.slice none 0 0, .bool false]) (t := 39) ?hr ?_; (case hd => rfl); (case hg => rfl); (case hr => first | (go_simp; done) | (go_simp; rfl)); intro gb1619 hg w4 hbox hb; have n0_ := Aside0.mk (IsS173.below (by repeat (first | (with_reducible first | exact HI0.out | apply IsS173.alloc | apply IsS173.drewN | apply IsS173.drew | apply IsS173.set_1 | apply IsS173.set_2 | refine IsS173.far ?_ NB0_1618.out _) | exact HI0.out)) hb); have n1_ := Aside0.mk (bb_ BK1618.out hb); have n2_ := Aside0.mk (KeepBut.trans (by repeat (first | (with_reducible first | exact HK.out | apply KeepBut.set_ | apply keep_drewN | apply keep_drew | apply keep_alloc | refine keep_far ?_ GW1618.out _) | exact HK.out)) (KeepBut.of_below hb g none) (.inl rfl)); have n3_ := Aside0.mk (below_step (by repeat (first | (with_reducible first | exact HB.out | apply ba_ | apply bn_ | apply bd_ | refine below_set ?_ (IsS173.ge HI0.out) | refine below_set ?_ GE1618.out) | exact HB.out)) hb); have n4_ := Aside0.mk (hbox); have n5_ := Aside0.mk ((by rw [hg]; exact (keep_size (w := w) (g := g) (row := none) (by repeat (first | (with_reducible first | exact HK.out | apply KeepBut.set_ | apply keep_drewN | apply keep_drew | apply keep_alloc | refine keep_far ?_ GW1618.out _) | exact HK.out))) : w.heap.size ≤ gb1619)); have n6_ := Aside0.mk ((Nat.le_trans HW0.out (by rw [hg]; exact (keep_size (w := w) (g := g) (row := none) (by repeat (first | (with_reducible first | exact HK.out | apply KeepBut.set_ | apply keep_drewN | apply keep_drew | apply keep_alloc | refine keep_far ?_ GW1618.out _) | exact HK.out))) : w.heap.size ≤ gb1619) : w0.heap.size ≤ gb1619)); have n7_ := Aside0.mk (nl_ BK1618.out hg); have n8_ := Aside0.mk (ng_ BK1618.out hg); have n9_ := Aside0.mk ((by rw [hg]; exact Nat.ne_of_lt (IsS173.lt (show IsS173 w0 _ g s0_0 s0_1 s0_2 from by repeat (first | (with_reducible first | exact HI0.out | apply IsS173.alloc | apply IsS173.drewN | apply IsS173.drew | apply IsS173.set_1 | apply IsS173.set_2 | refine IsS173.far ?_ NB0_1618.out _) | exact HI0.out))) : g ≠ gb1619)); have n10_ := Aside0.mk ((by rw [hg]; exact Nat.ne_of_gt (IsS173.lt (show IsS173 w0 _ g s0_0 s0_1 s0_2 from by repeat (first | (with_reducible first | exact HI0.out | apply IsS173.alloc | apply IsS173.drewN | apply IsS173.drew | apply IsS173.set_1 | apply IsS173.set_2 | refine IsS173.far ?_ NB0_1618.out _) | exact HI0.out))) : gb1619 ≠ g)); clear HI0; clear BK1618; clear HK; clear HB; have HI0 := n0_; have BK1618 := n1_; have HK := n2_; have HB := n3_; have BK1619 := n4_; have GW1619 := n5_; have GE1619 := n6_; have NB1618_1619 := n7_; have NB1619_1618 := n8_; have NB0_1619 := n9_; have NB1619_0 := n10_; clear n0_ n1_ n2_ n3_ n4_ n5_ n6_ n7_ n8_ n9_ n10_; clear hb hbox hg; have hnb5 := NB1619_1618.out; have hnc5 := NB1618_1619.out; have hnb6 := NB1619_0.out; have hnc6 := NB0_1619.out; have hcz7_0 : w4.cell? ⟨gb1619, 0, none⟩ = some (.slice none 0 0) := (blk_cell BK1619.out 0).trans rfl; have hcz7_1 : w4.cell? ⟨gb1619, 1, none⟩ = some (.bool false) := (blk_cell BK1619.out 1).trans rfl; have hfz7_0 := blk_frozen BK1619.out 0; have hfz7_1 := blk_frozen BK1619.out 1) | ((with_reducible refine gate_callee (f := 137) rfl ?_); refine goesL_ (some 8) rfl rfl Try.func137 (by kernel_rfl) rfl #[.pointer (some ⟨g, 0, none⟩), .int .i64 6] rfl (by (try simp only [mp_]); first | done | rfl | (simp only [List.length_drop, List.length_take]; rfl)) ?_; (with_reducible refine (spec_l1Below.calls g s0_0 s0_1 s0_2 6 t1620 t1621 t1622 w0 _ ?side1 ?side2 A2.out).mono ?_); (case side1 => repeat (first | (with_reducible first | exact HI0.out | apply IsS173.alloc | apply IsS173.drewN | apply IsS173.drew | apply IsS173.set_1 | apply IsS173.set_2 | refine IsS173.far ?_ NB0_1618.out _ | refine IsS173.far ?_ NB0_1619.out _) | exact HI0.out)); (case side2 => repeat (first | (with_reducible first | exact HB.out | apply ba_ | apply bn_ | apply bd_ | refine below_set ?_ (IsS173.ge HI0.out) | refine below_set ?_ GE1618.out | refine below_set ?_ GE1619.out) | exact HB.out)); rintro e w8 ⟨rfl, hi, hb, hk⟩; refine ⟨_, rfl, ?_⟩; have n0_ := Aside0.mk (KeepBut.blk hk (g' := gb1618) (o := .cells #[.slice none 0 0, .bool false] 39 (0, 0)) (by (with_reducible repeat (first | refine kn_ ?_ _ | refine kd_ ?_ | refine ka_ ?_ _)); refine blk_far ?_ NB1618_1619.out _; (with_reducible repeat (first | refine kn_ ?_ _ | refine kd_ ?_ | refine ka_ ?_ _)); refine blk_far ?_ NB1618_1619.out _; (with_reducible repeat (first | refine kn_ ?_ _ | refine kd_ ?_ | refine ka_ ?_ _)); exact BK1618.out) NB1618_0.out (by simp)); have n1_ := Aside0.mk (KeepBut.blk hk (g' := gb1619) (o := .cells #[.slice none 0 0, .bool false] 39 (0, 0)) (by (with_reducible repeat (first | refine kn_ ?_ _ | refine kd_ ?_ | refine ka_ ?_ _)); refine blk_put (cs := #[.slice none 0 0, .bool false]) ?_ 1 _ rfl; (with_reducible repeat (first | refine kn_ ?_ _ | refine kd_ ?_ | refine ka_ ?_ _)); refine blk_put (cs := #[.slice none 0 0, .bool false]) ?_ 0 _ rfl; (with_reducible repeat (first | refine kn_ ?_ _ | refine kd_ ?_ | refine ka_ ?_ _)); exact BK1619.out) NB1619_0.out (by simp)); have n2_ := Aside0.mk (KeepBut.trans (by repeat (first | (with_reducible first | exact HK.out | apply KeepBut.set_ | apply keep_drewN | apply keep_drew | apply keep_alloc | refine keep_far ?_ GW1618.out _ | refine keep_far ?_ GW1619.out _) | exact HK.out)) hk (.inl rfl)); have n3_ := Aside0.mk (hb); have n4_ := Aside0.mk (hi); clear BK1618; clear BK1619; clear HK; clear HB; clear HI0; have BK1618 := n0_; have BK1619 := n1_; have HK := n2_; have HB := n3_; have HI0 := n4_; clear n0_ n1_ n2_ n3_ n4_; (try clear hb); (try clear hb2); (try clear hk); (try clear hi)))
 go_loopg [4] k (fun kq v4 w' => ∃ (x4_1 : Int) (x1001_1 : Int) (x1002_1 : Int) (x1620000_1 : List (S44)) (x1620001_1 : Bool) (u1620000 : Value), v4 = .int .i64 x4_1 ∧ Aside0 (spec_l9Draw.l0 kq x4_1 s0_0 x1001_1 x1002_1 x1620000_1 x1620001_1 = some (r1, r2, r3, r4)) ∧ Aside0 (kq ≤ k) ∧ Aside0 (Kd.S k44 44 w' w.heap.size (fun _ => True) u1620000 x1620000_1) ∧ Aside0 (w'.heap[gb1618]? = some (.cells #[(.slice none 0 0), .bool false] 39 (0, 0))) ∧ Aside0 (w'.heap[gb1619]? = some (.cells #[u1620000, .bool x1620001_1] 39 (0, 0))) ∧ Aside0 (IsS173 w0 w' g s0_0 x1001_1 x1002_1) ∧ Aside0 (KeepBut w w' g none) ∧ Aside0 (Below w0.heap.size w0 w'))
 case atStart => exact ⟨(t1620), (t1621), (t1622), (([] : List (S44))), (false), (.slice none 0 0), (by first | rfl | (simp; done) | (simp [*]; done)), H', ⟨Nat.le_refl _⟩, ⟨by first | exact Kd.S_nil _ _ _ _ _ | exact Kd.N_nil _ _ _ _ _ | exact Kd.V_nil _ _ _ _ _ | exact Kd.Q_nil _ _ _ _ _ | exact Kd.R_nil _ _ _ _ _⟩, ⟨by (with_reducible repeat (first | refine kn_ ?_ _ | refine kd_ ?_ | refine ka_ ?_ _)); exact BK1618.out⟩, ⟨by (with_reducible repeat (first | refine kn_ ?_ _ | refine kd_ ?_ | refine ka_ ?_ _)); exact BK1619.out⟩, ⟨by repeat (first | (with_reducible first | exact HI0.out | apply IsS173.alloc | apply IsS173.drewN | apply IsS173.drew | apply IsS173.set_1 | apply IsS173.set_2 | refine IsS173.far ?_ NB0_1618.out _ | refine IsS173.far ?_ NB0_1619.out _) | exact HI0.out)⟩, ⟨by repeat (first | (with_reducible first | exact HK.out | apply KeepBut.set_ | apply keep_drewN | apply keep_drew | apply keep_alloc | refine keep_far ?_ GW1618.out _ | refine keep_far ?_ GW1619.out _) | exact HK.out)⟩, ⟨by repeat (first | (with_reducible first | exact HB.out | apply ba_ | apply bn_ | apply bd_ | refine below_set ?_ (IsS173.ge HI0.out) | refine below_set ?_ GE1618.out | refine below_set ?_ GE1619.out) | exact HB.out)⟩⟩
 case round =>
  clear H'
  try clear c1
  try clear p2
  try clear c5
  try clear c6
  try clear hcz7_0
  try clear hcz7_1
  try clear hfz7_0
  try clear hfz7_1
  obtain ⟨x4_1, x1001_1, x1002_1, x1620000_1, x1620001_1, u1620000, rfl, HA, HK1, HO_1620000, BK1618, BK1619, HI0, HK, HB⟩ := hrel
  cases gk with
  | zero => exact absurd HA.out (by simp [spec_l9Draw.l0])
  | succ k1 =>
   have H := HA.out
   clear HA
   simp only [spec_l9Draw.l0] at H
   by_cases c9 : x4_1 > 0
   ·
    rw [if_pos c9] at H
    have c9b0 : decide (0 < x4_1) = true := decide_eq_true c9
    clear c9
    replace H := Option.bind_eq_some_iff.mp H
    obtain ⟨⟨t1623, t1626, t1627, t1628, t1629, t1630⟩, A100, H⟩ := H
    have A10 := Aside0.mk A100
    clear A100
    replace H := Option.bind_eq_some_iff.mp H
    obtain ⟨⟨t1631, t1634⟩, A110, H⟩ := H
    have A11 := Aside0.mk A110
    clear A110
    have H' := Aside0.mk H
    clear H
    obtain ⟨Ao12, co12, eo12⟩ := Kd.S_slice HO_1620000.out
    subst eo12
    try go_wp2
    have n0_ := Aside0.mk (Kd.S_drew HO_1620000.out)
    have n1_ := Aside0.mk (blk_drew BK1618.out)
    have n2_ := Aside0.mk (blk_drew BK1619.out)
    have n3_ := Aside0.mk (IsS173.drew HI0.out)
    have n4_ := Aside0.mk (keep_drew HK.out)
    have n5_ := Aside0.mk (bd_ HB.out)
    clear HO_1620000
    clear BK1618
    clear BK1619
    clear HI0
    clear HK
    clear HB
    have HO_1620000 := n0_
    have BK1618 := n1_
    have BK1619 := n2_
    have HI0 := n3_
    have HK := n4_
    have HB := n5_
    clear n0_ n1_ n2_ n3_ n4_ n5_
    refine start_ (n := 6) (S := fun w' => w'.cell? ⟨gb1619, 0, none⟩ = some (.slice Ao12 x1620000_1.length co12) ∧ w'.cell? ⟨gb1619, 1, none⟩ = some (.bool x1620001_1)) (ds := []) #[f_,f_,f_,f_,f_,f_] (by kernel_rfl) rfl rfl ⟨(blk_cell BK1619.out 0).trans rfl, (blk_cell BK1619.out 1).trans rfl⟩ (fun hHeld => ?_)
    generalize wr.drew = w13 at HO_1620000 BK1618 BK1619 HI0 HK HB hHeld ⊢
    refine pure_ (i := 1) (N := some 14) (v := ?_) (a' := ?_) #[f_,t_,f_,f_,f_,f_] rfl rfl (by kernel_rfl) (fun _ _ _ h => h) (Or.inl ⟨by rfl, ?_⟩) ?_ ?_
    rotate_left
    ·
     intro w'
     go_simp
     with_reducible rfl
    rotate_left
    ·
     simp only [fr_]
     rfl
    refine take_ (i := 0) (N := some 13) (v := ?_) (a' := ?_) #[t_,t_,f_,f_,f_,f_] rfl rfl (by kernel_rfl) (fun _ _ _ h => h) (Or.inl ⟨by rfl, ?_⟩) hHeld ?_ ?_
    rotate_left
    ·
     rintro w' ⟨s0, s1⟩
     go_simp
     with_reducible rfl
    rotate_left
    ·
     simp only [fr_]
     rfl
    refine join_ (σ := Value × Value × Nat) 1 #[t_,t_,t_,t_,t_,f_] (fun s_ => [(15, .agg #[s_.1, .int .i64 t1626, .int .i64 t1627, .string t1628]), (16, .agg #[s_.2.1, .bool t1634]), (5, .pointer (some ⟨s_.2.2, 0, none⟩))]) (fun s_ w' => (w'.cell? ⟨gb1619, 0, none⟩ = some (.slice Ao12 x1620000_1.length co12) ∧ w'.cell? ⟨gb1619, 1, none⟩ = some (.bool x1620001_1)) ∧ (Kd.R k164 164 w' w.heap.size (fun _ => True) s_.1 t1623) ∧ (Kd.S k44 44 w' w.heap.size (fun k_ => some k_ ≠ (s_.1 : Value).ownBlock ∧ some k_ ≠ (.slice Ao12 x1620000_1.length co12 : Value).ownBlock) s_.2.1 t1631) ∧ (Kd.S k44 44 w' w.heap.size (fun k_ => some k_ ≠ (s_.1 : Value).ownBlock ∧ some k_ ≠ (s_.2.1 : Value).ownBlock) (.slice Ao12 x1620000_1.length co12) x1620000_1) ∧ (w'.heap[gb1618]? = some (.cells #[.slice none 0 0, .bool false] 39 (0, 0))) ∧ (w'.heap[gb1619]? = some (.cells #[.slice Ao12 x1620000_1.length co12, .bool x1620001_1] 39 (0, 0))) ∧ (w'.heap[s_.2.2]? = some (.cells #[.slice none 0 0, .bool false] 39 (0, 0))) ∧ (w.heap.size ≤ s_.2.2) ∧ (w0.heap.size ≤ s_.2.2) ∧ (g ≠ s_.2.2) ∧ (s_.2.2 ≠ g) ∧ (gb1618 ≠ s_.2.2) ∧ (s_.2.2 ≠ gb1618) ∧ (gb1619 ≠ s_.2.2) ∧ (s_.2.2 ≠ gb1619) ∧ (IsS173 w0 w' g s0_0 t1629 t1630) ∧ (KeepBut w w' g none) ∧ (Below w0.heap.size w0 w')) ?_ ?_
    rotate_left
    ·
     intro hCont
     refine two_ (i := 2) (j := 4) (Ni := some 15) (Nj := some 5) #[t_,t_,t_,f_,f_,f_] #[t_,t_,f_,f_,t_,f_] rfl rfl rfl rfl (by kernel_rfl) (by decide) (by decide) (fun K hK => ?_) (fun K hK => ?_)
     ·
      skip
      refine goes_ Try.func135 (by kernel_rfl) rfl #[.pointer (some ⟨g, 0, none⟩)] (by rfl) rfl rfl (by (try simp only [mp_]); first | done | rfl | (simp only [List.length_drop, List.length_take]; rfl)) ?_
      with_reducible refine (spec_l4Draw.calls k1 g s0_0 x1001_1 x1002_1 t1623 t1626 t1627 t1628 t1629 t1630 w0 _ ?side1 ?side2 A10.out).mono ?_
      (case side1 => repeat (first | (with_reducible first | exact HI0.out | apply IsS173.alloc | apply IsS173.drewN | apply IsS173.drew | apply IsS173.set_1 | apply IsS173.set_2 | refine IsS173.far ?_ NB0_1618.out _ | refine IsS173.far ?_ NB0_1619.out _) | exact HI0.out))
      (case side2 => repeat (first | (with_reducible first | exact HB.out | apply ba_ | apply bn_ | apply bd_ | refine below_set ?_ (IsS173.ge HI0.out) | refine below_set ?_ GE1618.out | refine below_set ?_ GE1619.out) | exact HB.out))
      rintro e w14 ⟨v1624, rfl, ho0, hi, hb, hk⟩
      refine ⟨_, rfl, ?_⟩
      have n0_ := Aside0.mk (Kd.S_mono (Kd.S_told (Kd.S_oldK (IsS173.apartS (show IsS173 w0 _ g s0_0 x1001_1 x1002_1 from by repeat (first | (with_reducible first | exact HI0.out | apply IsS173.alloc | apply IsS173.drewN | apply IsS173.drew | apply IsS173.set_1 | apply IsS173.set_2 | refine IsS173.far ?_ NB0_1618.out _ | refine IsS173.far ?_ NB0_1619.out _) | exact HI0.out)) (sp_ HO_1620000.out) (by decide)) hk) (Kd.R_base ho0)) (fun _ h_ => h_.1))
      have n1_ := Aside0.mk (KeepBut.blk hk (g' := gb1618) (o := .cells #[.slice none 0 0, .bool false] 39 (0, 0)) (pb_ BK1618.out) NB1618_0.out (by simp))
      have n2_ := Aside0.mk (KeepBut.blk hk (g' := gb1619) (o := .cells #[.slice Ao12 x1620000_1.length co12, .bool x1620001_1] 39 (0, 0)) (pb_ BK1619.out) NB1619_0.out (by simp))
      have n3_ := Aside0.mk (Kd.R_lower ho0 (keep_size (w := w) (g := g) (row := none) (by repeat (first | (with_reducible first | exact HK.out | apply KeepBut.set_ | apply keep_drewN | apply keep_drew | apply keep_alloc | refine keep_far ?_ GW1618.out _ | refine keep_far ?_ GW1619.out _) | exact HK.out))))
      have n4_ := Aside0.mk (KeepBut.trans (by repeat (first | (with_reducible first | exact HK.out | apply KeepBut.set_ | apply keep_drewN | apply keep_drew | apply keep_alloc | refine keep_far ?_ GW1618.out _ | refine keep_far ?_ GW1619.out _) | exact HK.out)) hk (.inl rfl))
      have n5_ := Aside0.mk (hb)
      have n6_ := Aside0.mk (hi)
      clear HO_1620000
      clear BK1618
      clear BK1619
      clear HK
      clear HB
      clear HI0
      have HO_1620000 := n0_
      have BK1618 := n1_
      have BK1619 := n2_
      have HO1625 := n3_
      have HK := n4_
      have HB := n5_
      have HI0 := n6_
      clear n0_ n1_ n2_ n3_ n4_ n5_ n6_
      (try clear hb)
      (try clear hb2)
      (try clear hk)
      (try clear hi)
      (try clear ho0)
      obtain ⟨Ao15, co15, eo15⟩ := Kd.R_slice HO1625.out
      (first | subst eo15 | (injection eo15 with f1_ f2_ f3_; have f4_ := f1_.symm; have f5_ := f3_.symm; clear f1_ f2_ f3_; subst f4_; subst f5_))
      refine hK.out _ _ ⟨(blk_cell BK1619.out 0).trans rfl, (blk_cell BK1619.out 1).trans rfl⟩ (fun hHeld => ?_)
      clear hK K
      refine norm_ (a' := ?_) ?_ ?_
      rotate_left
      ·
       show Act.put _ (some 15) _ = _
       simp only [fr_]
       rfl
      refine two_ (i := 3) (j := 4) (Ni := some 16) (Nj := some 5) #[t_,t_,t_,t_,f_,f_] #[t_,t_,t_,f_,t_,f_] rfl rfl rfl rfl (by kernel_rfl) (by decide) (by decide) (fun K hK => ?_) (fun K hK => ?_)
      ·
       skip
       refine goes_ Try.func22 (by kernel_rfl) rfl #[.agg #[.slice Ao12 x1620000_1.length co12, .bool x1620001_1], .agg #[.slice Ao15 t1623.length co15, .int .i64 t1626, .int .i64 t1627, .string t1628]] (by rfl) rfl rfl (by (try simp only [mp_]); first | done | rfl | (simp only [List.length_drop, List.length_take]; rfl)) ?_
       with_reducible refine (spec_Tell.calls k1 _ _ x1620000_1 x1620001_1 _ _ t1623 t1626 t1627 t1628 t1631 t1634 _ ?side1 ?side2 ?side3 ?side4 A11.out).mono ?_
       (case side1 => repeat (first | exact (Kd.S_reads' HO_1620000.out).2.2 | (with_reducible first | refine ca_ ?_ _ | refine cn_ ?_ _ | refine cd_ ?_)))
       (case side2 => exact (Kd.S_reads' HO_1620000.out).2.1)
       (case side3 => repeat (first | exact (Kd.R_reads' HO1625.out).2.2 | (with_reducible first | refine ca_ ?_ _ | refine cn_ ?_ _ | refine cd_ ?_)))
       (case side4 => exact (Kd.R_reads' HO1625.out).2.1)
       rintro e w16 ⟨v1632, rfl, ho0, hb⟩
       refine ⟨_, rfl, ?_⟩
       have n0_ := Aside0.mk (Kd.S_elder' (sp_ HO_1620000.out) (Kd.S_base ho0) hb)
       have n1_ := Aside0.mk (Kd.R_below (rp_ HO1625.out) hb)
       have n2_ := Aside0.mk (Kd.S_lower (Kd.S_new' (Kd.S_new' ho0 (Kd.S_lt (sp_ HO_1620000.out))) (Kd.R_lt (rp_ HO1625.out))) (keep_size (w := w) (g := g) (row := none) (by repeat (first | (with_reducible first | exact HK.out | apply KeepBut.set_ | apply keep_drewN | apply keep_drew | apply keep_alloc | refine keep_far ?_ GW1618.out _ | refine keep_far ?_ GW1619.out _) | exact HK.out))))
       have n3_ := Aside0.mk (bb_ BK1618.out hb)
       have n4_ := Aside0.mk (bb_ BK1619.out hb)
       have n5_ := Aside0.mk (IsS173.below (by repeat (first | (with_reducible first | exact HI0.out | apply IsS173.alloc | apply IsS173.drewN | apply IsS173.drew | apply IsS173.set_1 | apply IsS173.set_2 | refine IsS173.far ?_ NB0_1618.out _ | refine IsS173.far ?_ NB0_1619.out _) | exact HI0.out)) hb)
       have n6_ := Aside0.mk (KeepBut.trans (by repeat (first | (with_reducible first | exact HK.out | apply KeepBut.set_ | apply keep_drewN | apply keep_drew | apply keep_alloc | refine keep_far ?_ GW1618.out _ | refine keep_far ?_ GW1619.out _) | exact HK.out)) (KeepBut.of_below hb g none) (.inl rfl))
       have n7_ := Aside0.mk (below_step (by repeat (first | (with_reducible first | exact HB.out | apply ba_ | apply bn_ | apply bd_ | refine below_set ?_ (IsS173.ge HI0.out) | refine below_set ?_ GE1618.out | refine below_set ?_ GE1619.out) | exact HB.out)) hb)
       clear HO_1620000
       clear HO1625
       clear BK1618
       clear BK1619
       clear HI0
       clear HK
       clear HB
       have HO_1620000 := n0_
       have HO1625 := n1_
       have HO1633 := n2_
       have BK1618 := n3_
       have BK1619 := n4_
       have HI0 := n5_
       have HK := n6_
       have HB := n7_
       clear n0_ n1_ n2_ n3_ n4_ n5_ n6_ n7_
       (try clear hb)
       (try clear hb2)
       (try clear hk)
       (try clear hi)
       (try clear ho0)
       refine hK.out _ _ ⟨(blk_cell BK1619.out 0).trans rfl, (blk_cell BK1619.out 1).trans rfl⟩ (fun hHeld => ?_)
       clear hK K
       refine norm_ (a' := ?_) ?_ ?_
       rotate_left
       ·
        show Act.put _ (some 16) _ = _
        simp only [fr_]
        rfl
       refine one_ (i := 4) (N := some 5) #[t_,t_,t_,t_,t_,f_] rfl rfl (by kernel_rfl) (by decide) (fun K hK => ?_)
       refine box_step ?hg (N := 5) ?hd (cs := #[.slice none 0 0, .bool false]) (t := 39) ?hr ?_; (case hd => rfl); (case hg => rfl); (case hr => first | (go_simp; done) | (go_simp; rfl))
       intro gb1635 hg w17 hbox hb
       have n0_ := Aside0.mk (Kd.S_below (sp_ HO_1620000.out) hb)
       have n1_ := Aside0.mk (Kd.R_below (rp_ HO1625.out) hb)
       have n2_ := Aside0.mk (Kd.S_below (sp_ HO1633.out) hb)
       have n3_ := Aside0.mk (bb_ BK1618.out hb)
       have n4_ := Aside0.mk (bb_ BK1619.out hb)
       have n5_ := Aside0.mk (IsS173.below (by repeat (first | (with_reducible first | exact HI0.out | apply IsS173.alloc | apply IsS173.drewN | apply IsS173.drew | apply IsS173.set_1 | apply IsS173.set_2 | refine IsS173.far ?_ NB0_1618.out _ | refine IsS173.far ?_ NB0_1619.out _) | exact HI0.out)) hb)
       have n6_ := Aside0.mk (KeepBut.trans (by repeat (first | (with_reducible first | exact HK.out | apply KeepBut.set_ | apply keep_drewN | apply keep_drew | apply keep_alloc | refine keep_far ?_ GW1618.out _ | refine keep_far ?_ GW1619.out _) | exact HK.out)) (KeepBut.of_below hb g none) (.inl rfl))
       have n7_ := Aside0.mk (below_step (by repeat (first | (with_reducible first | exact HB.out | apply ba_ | apply bn_ | apply bd_ | refine below_set ?_ (IsS173.ge HI0.out) | refine below_set ?_ GE1618.out | refine below_set ?_ GE1619.out) | exact HB.out)) hb)
       have n8_ := Aside0.mk (hbox)
       have n9_ := Aside0.mk ((by rw [hg]; exact (keep_size (w := w) (g := g) (row := none) (by repeat (first | (with_reducible first | exact HK.out | apply KeepBut.set_ | apply keep_drewN | apply keep_drew | apply keep_alloc | refine keep_far ?_ GW1618.out _ | refine keep_far ?_ GW1619.out _) | exact HK.out))) : w.heap.size ≤ gb1635))
       have n10_ := Aside0.mk ((Nat.le_trans HW0.out (by rw [hg]; exact (keep_size (w := w) (g := g) (row := none) (by repeat (first | (with_reducible first | exact HK.out | apply KeepBut.set_ | apply keep_drewN | apply keep_drew | apply keep_alloc | refine keep_far ?_ GW1618.out _ | refine keep_far ?_ GW1619.out _) | exact HK.out))) : w.heap.size ≤ gb1635) : w0.heap.size ≤ gb1635))
       have n11_ := Aside0.mk (nl_ BK1618.out hg)
       have n12_ := Aside0.mk (ng_ BK1618.out hg)
       have n13_ := Aside0.mk (nl_ BK1619.out hg)
       have n14_ := Aside0.mk (ng_ BK1619.out hg)
       have n15_ := Aside0.mk ((by rw [hg]; exact Nat.ne_of_lt (IsS173.lt (show IsS173 w0 _ g s0_0 t1629 t1630 from by repeat (first | (with_reducible first | exact HI0.out | apply IsS173.alloc | apply IsS173.drewN | apply IsS173.drew | apply IsS173.set_1 | apply IsS173.set_2 | refine IsS173.far ?_ NB0_1618.out _ | refine IsS173.far ?_ NB0_1619.out _) | exact HI0.out))) : g ≠ gb1635))
       have n16_ := Aside0.mk ((by rw [hg]; exact Nat.ne_of_gt (IsS173.lt (show IsS173 w0 _ g s0_0 t1629 t1630 from by repeat (first | (with_reducible first | exact HI0.out | apply IsS173.alloc | apply IsS173.drewN | apply IsS173.drew | apply IsS173.set_1 | apply IsS173.set_2 | refine IsS173.far ?_ NB0_1618.out _ | refine IsS173.far ?_ NB0_1619.out _) | exact HI0.out))) : gb1635 ≠ g))
       clear HO_1620000
       clear HO1625
       clear HO1633
       clear BK1618
       clear BK1619
       clear HI0
       clear HK
       clear HB
       have HO_1620000 := n0_
       have HO1625 := n1_
       have HO1633 := n2_
       have BK1618 := n3_
       have BK1619 := n4_
       have HI0 := n5_
       have HK := n6_
       have HB := n7_
       have BK1635 := n8_
       have GW1635 := n9_
       have GE1635 := n10_
       have NB1618_1635 := n11_
       have NB1635_1618 := n12_
       have NB1619_1635 := n13_
       have NB1635_1619 := n14_
       have NB0_1635 := n15_
       have NB1635_0 := n16_
       clear n0_ n1_ n2_ n3_ n4_ n5_ n6_ n7_ n8_ n9_ n10_ n11_ n12_ n13_ n14_ n15_ n16_
       clear hb hbox hg
       refine hK.out _ _ ⟨(blk_cell BK1619.out 0).trans rfl, (blk_cell BK1619.out 1).trans rfl⟩ (fun hHeld => ?_)
       clear hK K
       refine norm_ (a' := ?_) ?_ ?_
       rotate_left
       ·
        show Act.put _ (some 5) _ = _
        simp only [fr_]
        rfl
       exact norm_ (by simp only [putAll, Act.put, List.setIfInBounds_toArray, List.set_cons_zero, List.set_cons_succ]) (hCont (.slice Ao15 t1623.length co15, v1632, gb1635) _ ⟨hHeld, (rp_ HO1625.out), (by (with_reducible repeat (first | apply Kd.S_alloc | apply Kd.S_drewN | apply Kd.S_drew)); exact Kd.S_mono HO1633.out (fun _ hk => ⟨hk.2, hk.1.2⟩)), (by (with_reducible repeat (first | apply Kd.S_alloc | apply Kd.S_drewN | apply Kd.S_drew)); exact Kd.S_mono HO_1620000.out (fun _ hk => ⟨hk.1.2, hk.2⟩)), (pb_ BK1618.out), (pb_ BK1619.out), (pb_ BK1635.out), GW1635.out, GE1635.out, NB0_1635.out, NB1635_0.out, NB1618_1635.out, NB1635_1618.out, NB1619_1635.out, NB1635_1619.out, (by repeat (first | (with_reducible first | exact HI0.out | apply IsS173.alloc | apply IsS173.drewN | apply IsS173.drew | apply IsS173.set_1 | apply IsS173.set_2 | refine IsS173.far ?_ NB0_1618.out _ | refine IsS173.far ?_ NB0_1619.out _ | refine IsS173.far ?_ NB0_1635.out _) | exact HI0.out)), (by repeat (first | (with_reducible first | exact HK.out | apply KeepBut.set_ | apply keep_drewN | apply keep_drew | apply keep_alloc | refine keep_far ?_ GW1618.out _ | refine keep_far ?_ GW1619.out _ | refine keep_far ?_ GW1635.out _) | exact HK.out)), (by repeat (first | (with_reducible first | exact HB.out | apply ba_ | apply bn_ | apply bd_ | refine below_set ?_ (IsS173.ge HI0.out) | refine below_set ?_ GE1618.out | refine below_set ?_ GE1619.out | refine below_set ?_ GE1635.out) | exact HB.out))⟩)
      skip
      refine box_step ?hg (N := 5) ?hd (cs := #[.slice none 0 0, .bool false]) (t := 39) ?hr ?_; (case hd => rfl); (case hg => rfl); (case hr => first | (go_simp; done) | (go_simp; rfl))
      intro gb1635 hg w15 hbox hb
      have n0_ := Aside0.mk (Kd.S_below (sp_ HO_1620000.out) hb)
      have n1_ := Aside0.mk (Kd.R_below (rp_ HO1625.out) hb)
      have n2_ := Aside0.mk (bb_ BK1618.out hb)
      have n3_ := Aside0.mk (bb_ BK1619.out hb)
      have n4_ := Aside0.mk (IsS173.below (by repeat (first | (with_reducible first | exact HI0.out | apply IsS173.alloc | apply IsS173.drewN | apply IsS173.drew | apply IsS173.set_1 | apply IsS173.set_2 | refine IsS173.far ?_ NB0_1618.out _ | refine IsS173.far ?_ NB0_1619.out _) | exact HI0.out)) hb)
      have n5_ := Aside0.mk (KeepBut.trans (by repeat (first | (with_reducible first | exact HK.out | apply KeepBut.set_ | apply keep_drewN | apply keep_drew | apply keep_alloc | refine keep_far ?_ GW1618.out _ | refine keep_far ?_ GW1619.out _) | exact HK.out)) (KeepBut.of_below hb g none) (.inl rfl))
      have n6_ := Aside0.mk (below_step (by repeat (first | (with_reducible first | exact HB.out | apply ba_ | apply bn_ | apply bd_ | refine below_set ?_ (IsS173.ge HI0.out) | refine below_set ?_ GE1618.out | refine below_set ?_ GE1619.out) | exact HB.out)) hb)
      have n7_ := Aside0.mk (hbox)
      have n8_ := Aside0.mk ((by rw [hg]; exact (keep_size (w := w) (g := g) (row := none) (by repeat (first | (with_reducible first | exact HK.out | apply KeepBut.set_ | apply keep_drewN | apply keep_drew | apply keep_alloc | refine keep_far ?_ GW1618.out _ | refine keep_far ?_ GW1619.out _) | exact HK.out))) : w.heap.size ≤ gb1635))
      have n9_ := Aside0.mk ((Nat.le_trans HW0.out (by rw [hg]; exact (keep_size (w := w) (g := g) (row := none) (by repeat (first | (with_reducible first | exact HK.out | apply KeepBut.set_ | apply keep_drewN | apply keep_drew | apply keep_alloc | refine keep_far ?_ GW1618.out _ | refine keep_far ?_ GW1619.out _) | exact HK.out))) : w.heap.size ≤ gb1635) : w0.heap.size ≤ gb1635))
      have n10_ := Aside0.mk (nl_ BK1618.out hg)
      have n11_ := Aside0.mk (ng_ BK1618.out hg)
      have n12_ := Aside0.mk (nl_ BK1619.out hg)
      have n13_ := Aside0.mk (ng_ BK1619.out hg)
      have n14_ := Aside0.mk ((by rw [hg]; exact Nat.ne_of_lt (IsS173.lt (show IsS173 w0 _ g s0_0 t1629 t1630 from by repeat (first | (with_reducible first | exact HI0.out | apply IsS173.alloc | apply IsS173.drewN | apply IsS173.drew | apply IsS173.set_1 | apply IsS173.set_2 | refine IsS173.far ?_ NB0_1618.out _ | refine IsS173.far ?_ NB0_1619.out _) | exact HI0.out))) : g ≠ gb1635))
      have n15_ := Aside0.mk ((by rw [hg]; exact Nat.ne_of_gt (IsS173.lt (show IsS173 w0 _ g s0_0 t1629 t1630 from by repeat (first | (with_reducible first | exact HI0.out | apply IsS173.alloc | apply IsS173.drewN | apply IsS173.drew | apply IsS173.set_1 | apply IsS173.set_2 | refine IsS173.far ?_ NB0_1618.out _ | refine IsS173.far ?_ NB0_1619.out _) | exact HI0.out))) : gb1635 ≠ g))
      clear HO_1620000
      clear HO1625
      clear BK1618
      clear BK1619
      clear HI0
      clear HK
      clear HB
      have HO_1620000 := n0_
      have HO1625 := n1_
      have BK1618 := n2_
      have BK1619 := n3_
      have HI0 := n4_
      have HK := n5_
      have HB := n6_
      have BK1635 := n7_
      have GW1635 := n8_
      have GE1635 := n9_
      have NB1618_1635 := n10_
      have NB1635_1618 := n11_
      have NB1619_1635 := n12_
      have NB1635_1619 := n13_
      have NB0_1635 := n14_
      have NB1635_0 := n15_
      clear n0_ n1_ n2_ n3_ n4_ n5_ n6_ n7_ n8_ n9_ n10_ n11_ n12_ n13_ n14_ n15_
      clear hb hbox hg
      obtain ⟨Ao16, co16, eo16⟩ := Kd.R_slice HO1625.out
      (first | subst eo16 | (injection eo16 with f1_ f2_ f3_; have f4_ := f1_.symm; have f5_ := f3_.symm; clear f1_ f2_ f3_; subst f4_; subst f5_))
      refine hK.out _ _ ⟨(blk_cell BK1619.out 0).trans rfl, (blk_cell BK1619.out 1).trans rfl⟩ (fun hHeld => ?_)
      clear hK K
      refine norm_ (a' := ?_) ?_ ?_
      rotate_left
      ·
       show Act.put _ (some 5) _ = _
       simp only [fr_]
       rfl
      refine one_ (i := 3) (N := some 16) #[t_,t_,t_,t_,t_,f_] rfl rfl (by kernel_rfl) (by decide) (fun K hK => ?_)
      refine goes_ Try.func22 (by kernel_rfl) rfl #[.agg #[.slice Ao12 x1620000_1.length co12, .bool x1620001_1], .agg #[.slice Ao16 t1623.length co16, .int .i64 t1626, .int .i64 t1627, .string t1628]] (by rfl) rfl rfl (by (try simp only [mp_]); first | done | rfl | (simp only [List.length_drop, List.length_take]; rfl)) ?_
      with_reducible refine (spec_Tell.calls k1 _ _ x1620000_1 x1620001_1 _ _ t1623 t1626 t1627 t1628 t1631 t1634 _ ?side1 ?side2 ?side3 ?side4 A11.out).mono ?_
      (case side1 => repeat (first | exact (Kd.S_reads' HO_1620000.out).2.2 | (with_reducible first | refine ca_ ?_ _ | refine cn_ ?_ _ | refine cd_ ?_)))
      (case side2 => exact (Kd.S_reads' HO_1620000.out).2.1)
      (case side3 => repeat (first | exact (Kd.R_reads' HO1625.out).2.2 | (with_reducible first | refine ca_ ?_ _ | refine cn_ ?_ _ | refine cd_ ?_)))
      (case side4 => exact (Kd.R_reads' HO1625.out).2.1)
      rintro e w17 ⟨v1632, rfl, ho0, hb⟩
      refine ⟨_, rfl, ?_⟩
      have n0_ := Aside0.mk (Kd.S_elder' (sp_ HO_1620000.out) (Kd.S_base ho0) hb)
      have n1_ := Aside0.mk (Kd.R_below (rp_ HO1625.out) hb)
      have n2_ := Aside0.mk (Kd.S_lower (Kd.S_new' (Kd.S_new' ho0 (Kd.S_lt (sp_ HO_1620000.out))) (Kd.R_lt (rp_ HO1625.out))) (keep_size (w := w) (g := g) (row := none) (by repeat (first | (with_reducible first | exact HK.out | apply KeepBut.set_ | apply keep_drewN | apply keep_drew | apply keep_alloc | refine keep_far ?_ GW1618.out _ | refine keep_far ?_ GW1619.out _ | refine keep_far ?_ GW1635.out _) | exact HK.out))))
      have n3_ := Aside0.mk (bb_ BK1618.out hb)
      have n4_ := Aside0.mk (bb_ BK1619.out hb)
      have n5_ := Aside0.mk (IsS173.below (by repeat (first | (with_reducible first | exact HI0.out | apply IsS173.alloc | apply IsS173.drewN | apply IsS173.drew | apply IsS173.set_1 | apply IsS173.set_2 | refine IsS173.far ?_ NB0_1618.out _ | refine IsS173.far ?_ NB0_1619.out _ | refine IsS173.far ?_ NB0_1635.out _) | exact HI0.out)) hb)
      have n6_ := Aside0.mk (bb_ BK1635.out hb)
      have n7_ := Aside0.mk (KeepBut.trans (by repeat (first | (with_reducible first | exact HK.out | apply KeepBut.set_ | apply keep_drewN | apply keep_drew | apply keep_alloc | refine keep_far ?_ GW1618.out _ | refine keep_far ?_ GW1619.out _ | refine keep_far ?_ GW1635.out _) | exact HK.out)) (KeepBut.of_below hb g none) (.inl rfl))
      have n8_ := Aside0.mk (below_step (by repeat (first | (with_reducible first | exact HB.out | apply ba_ | apply bn_ | apply bd_ | refine below_set ?_ (IsS173.ge HI0.out) | refine below_set ?_ GE1618.out | refine below_set ?_ GE1619.out | refine below_set ?_ GE1635.out) | exact HB.out)) hb)
      clear HO_1620000
      clear HO1625
      clear BK1618
      clear BK1619
      clear HI0
      clear BK1635
      clear HK
      clear HB
      have HO_1620000 := n0_
      have HO1625 := n1_
      have HO1633 := n2_
      have BK1618 := n3_
      have BK1619 := n4_
      have HI0 := n5_
      have BK1635 := n6_
      have HK := n7_
      have HB := n8_
      clear n0_ n1_ n2_ n3_ n4_ n5_ n6_ n7_ n8_
      (try clear hb)
      (try clear hb2)
      (try clear hk)
      (try clear hi)
      (try clear ho0)
      refine hK.out _ _ ⟨(blk_cell BK1619.out 0).trans rfl, (blk_cell BK1619.out 1).trans rfl⟩ (fun hHeld => ?_)
      clear hK K
      refine norm_ (a' := ?_) ?_ ?_
      rotate_left
      ·
       show Act.put _ (some 16) _ = _
       simp only [fr_]
       rfl
      exact norm_ (by simp only [putAll, Act.put, List.setIfInBounds_toArray, List.set_cons_zero, List.set_cons_succ]) (hCont (.slice Ao16 t1623.length co16, v1632, gb1635) _ ⟨hHeld, (rp_ HO1625.out), (by (with_reducible repeat (first | apply Kd.S_alloc | apply Kd.S_drewN | apply Kd.S_drew)); exact Kd.S_mono HO1633.out (fun _ hk => ⟨hk.2, hk.1.2⟩)), (by (with_reducible repeat (first | apply Kd.S_alloc | apply Kd.S_drewN | apply Kd.S_drew)); exact Kd.S_mono HO_1620000.out (fun _ hk => ⟨hk.1.2, hk.2⟩)), (pb_ BK1618.out), (pb_ BK1619.out), (pb_ BK1635.out), GW1635.out, GE1635.out, NB0_1635.out, NB1635_0.out, NB1618_1635.out, NB1635_1618.out, NB1619_1635.out, NB1635_1619.out, (by repeat (first | (with_reducible first | exact HI0.out | apply IsS173.alloc | apply IsS173.drewN | apply IsS173.drew | apply IsS173.set_1 | apply IsS173.set_2 | refine IsS173.far ?_ NB0_1618.out _ | refine IsS173.far ?_ NB0_1619.out _ | refine IsS173.far ?_ NB0_1635.out _) | exact HI0.out)), (by repeat (first | (with_reducible first | exact HK.out | apply KeepBut.set_ | apply keep_drewN | apply keep_drew | apply keep_alloc | refine keep_far ?_ GW1618.out _ | refine keep_far ?_ GW1619.out _ | refine keep_far ?_ GW1635.out _) | exact HK.out)), (by repeat (first | (with_reducible first | exact HB.out | apply ba_ | apply bn_ | apply bd_ | refine below_set ?_ (IsS173.ge HI0.out) | refine below_set ?_ GE1618.out | refine below_set ?_ GE1619.out | refine below_set ?_ GE1635.out) | exact HB.out))⟩)
     skip
     refine box_step ?hg (N := 5) ?hd (cs := #[.slice none 0 0, .bool false]) (t := 39) ?hr ?_; (case hd => rfl); (case hg => rfl); (case hr => first | (go_simp; done) | (go_simp; rfl))
     intro gb1635 hg w14 hbox hb
     have n0_ := Aside0.mk (Kd.S_below (sp_ HO_1620000.out) hb)
     have n1_ := Aside0.mk (bb_ BK1618.out hb)
     have n2_ := Aside0.mk (bb_ BK1619.out hb)
     have n3_ := Aside0.mk (IsS173.below (by repeat (first | (with_reducible first | exact HI0.out | apply IsS173.alloc | apply IsS173.drewN | apply IsS173.drew | apply IsS173.set_1 | apply IsS173.set_2 | refine IsS173.far ?_ NB0_1618.out _ | refine IsS173.far ?_ NB0_1619.out _) | exact HI0.out)) hb)
     have n4_ := Aside0.mk (KeepBut.trans (by repeat (first | (with_reducible first | exact HK.out | apply KeepBut.set_ | apply keep_drewN | apply keep_drew | apply keep_alloc | refine keep_far ?_ GW1618.out _ | refine keep_far ?_ GW1619.out _) | exact HK.out)) (KeepBut.of_below hb g none) (.inl rfl))
     have n5_ := Aside0.mk (below_step (by repeat (first | (with_reducible first | exact HB.out | apply ba_ | apply bn_ | apply bd_ | refine below_set ?_ (IsS173.ge HI0.out) | refine below_set ?_ GE1618.out | refine below_set ?_ GE1619.out) | exact HB.out)) hb)
     have n6_ := Aside0.mk (hbox)
     have n7_ := Aside0.mk ((by rw [hg]; exact (keep_size (w := w) (g := g) (row := none) (by repeat (first | (with_reducible first | exact HK.out | apply KeepBut.set_ | apply keep_drewN | apply keep_drew | apply keep_alloc | refine keep_far ?_ GW1618.out _ | refine keep_far ?_ GW1619.out _) | exact HK.out))) : w.heap.size ≤ gb1635))
     have n8_ := Aside0.mk ((Nat.le_trans HW0.out (by rw [hg]; exact (keep_size (w := w) (g := g) (row := none) (by repeat (first | (with_reducible first | exact HK.out | apply KeepBut.set_ | apply keep_drewN | apply keep_drew | apply keep_alloc | refine keep_far ?_ GW1618.out _ | refine keep_far ?_ GW1619.out _) | exact HK.out))) : w.heap.size ≤ gb1635) : w0.heap.size ≤ gb1635))
     have n9_ := Aside0.mk (nl_ BK1618.out hg)
     have n10_ := Aside0.mk (ng_ BK1618.out hg)
     have n11_ := Aside0.mk (nl_ BK1619.out hg)
     have n12_ := Aside0.mk (ng_ BK1619.out hg)
     have n13_ := Aside0.mk ((by rw [hg]; exact Nat.ne_of_lt (IsS173.lt (show IsS173 w0 _ g s0_0 x1001_1 x1002_1 from by repeat (first | (with_reducible first | exact HI0.out | apply IsS173.alloc | apply IsS173.drewN | apply IsS173.drew | apply IsS173.set_1 | apply IsS173.set_2 | refine IsS173.far ?_ NB0_1618.out _ | refine IsS173.far ?_ NB0_1619.out _) | exact HI0.out))) : g ≠ gb1635))
     have n14_ := Aside0.mk ((by rw [hg]; exact Nat.ne_of_gt (IsS173.lt (show IsS173 w0 _ g s0_0 x1001_1 x1002_1 from by repeat (first | (with_reducible first | exact HI0.out | apply IsS173.alloc | apply IsS173.drewN | apply IsS173.drew | apply IsS173.set_1 | apply IsS173.set_2 | refine IsS173.far ?_ NB0_1618.out _ | refine IsS173.far ?_ NB0_1619.out _) | exact HI0.out))) : gb1635 ≠ g))
     clear HO_1620000
     clear BK1618
     clear BK1619
     clear HI0
     clear HK
     clear HB
     have HO_1620000 := n0_
     have BK1618 := n1_
     have BK1619 := n2_
     have HI0 := n3_
     have HK := n4_
     have HB := n5_
     have BK1635 := n6_
     have GW1635 := n7_
     have GE1635 := n8_
     have NB1618_1635 := n9_
     have NB1635_1618 := n10_
     have NB1619_1635 := n11_
     have NB1635_1619 := n12_
     have NB0_1635 := n13_
     have NB1635_0 := n14_
     clear n0_ n1_ n2_ n3_ n4_ n5_ n6_ n7_ n8_ n9_ n10_ n11_ n12_ n13_ n14_
     clear hb hbox hg
     refine hK.out _ _ ⟨(blk_cell BK1619.out 0).trans rfl, (blk_cell BK1619.out 1).trans rfl⟩ (fun hHeld => ?_)
     clear hK K
     refine norm_ (a' := ?_) ?_ ?_
     rotate_left
     ·
      show Act.put _ (some 5) _ = _
      simp only [fr_]
      rfl
     refine one_ (i := 2) (N := some 15) #[t_,t_,t_,f_,t_,f_] rfl rfl (by kernel_rfl) (by decide) (fun K hK => ?_)
     refine goes_ Try.func135 (by kernel_rfl) rfl #[.pointer (some ⟨g, 0, none⟩)] (by rfl) rfl rfl (by (try simp only [mp_]); first | done | rfl | (simp only [List.length_drop, List.length_take]; rfl)) ?_
     with_reducible refine (spec_l4Draw.calls k1 g s0_0 x1001_1 x1002_1 t1623 t1626 t1627 t1628 t1629 t1630 w0 _ ?side1 ?side2 A10.out).mono ?_
     (case side1 => repeat (first | (with_reducible first | exact HI0.out | apply IsS173.alloc | apply IsS173.drewN | apply IsS173.drew | apply IsS173.set_1 | apply IsS173.set_2 | refine IsS173.far ?_ NB0_1618.out _ | refine IsS173.far ?_ NB0_1619.out _ | refine IsS173.far ?_ NB0_1635.out _) | exact HI0.out))
     (case side2 => repeat (first | (with_reducible first | exact HB.out | apply ba_ | apply bn_ | apply bd_ | refine below_set ?_ (IsS173.ge HI0.out) | refine below_set ?_ GE1618.out | refine below_set ?_ GE1619.out | refine below_set ?_ GE1635.out) | exact HB.out))
     rintro e w15 ⟨v1624, rfl, ho0, hi, hb, hk⟩
     refine ⟨_, rfl, ?_⟩
     have n0_ := Aside0.mk (Kd.S_mono (Kd.S_told (Kd.S_oldK (IsS173.apartS (show IsS173 w0 _ g s0_0 x1001_1 x1002_1 from by repeat (first | (with_reducible first | exact HI0.out | apply IsS173.alloc | apply IsS173.drewN | apply IsS173.drew | apply IsS173.set_1 | apply IsS173.set_2 | refine IsS173.far ?_ NB0_1618.out _ | refine IsS173.far ?_ NB0_1619.out _ | refine IsS173.far ?_ NB0_1635.out _) | exact HI0.out)) (sp_ HO_1620000.out) (by decide)) hk) (Kd.R_base ho0)) (fun _ h_ => h_.1))
     have n1_ := Aside0.mk (KeepBut.blk hk (g' := gb1618) (o := .cells #[.slice none 0 0, .bool false] 39 (0, 0)) (pb_ BK1618.out) NB1618_0.out (by simp))
     have n2_ := Aside0.mk (KeepBut.blk hk (g' := gb1619) (o := .cells #[.slice Ao12 x1620000_1.length co12, .bool x1620001_1] 39 (0, 0)) (pb_ BK1619.out) NB1619_0.out (by simp))
     have n3_ := Aside0.mk (KeepBut.blk hk (g' := gb1635) (o := .cells #[.slice none 0 0, .bool false] 39 (0, 0)) (pb_ BK1635.out) NB1635_0.out (by simp))
     have n4_ := Aside0.mk (Kd.R_lower ho0 (keep_size (w := w) (g := g) (row := none) (by repeat (first | (with_reducible first | exact HK.out | apply KeepBut.set_ | apply keep_drewN | apply keep_drew | apply keep_alloc | refine keep_far ?_ GW1618.out _ | refine keep_far ?_ GW1619.out _ | refine keep_far ?_ GW1635.out _) | exact HK.out))))
     have n5_ := Aside0.mk (KeepBut.trans (by repeat (first | (with_reducible first | exact HK.out | apply KeepBut.set_ | apply keep_drewN | apply keep_drew | apply keep_alloc | refine keep_far ?_ GW1618.out _ | refine keep_far ?_ GW1619.out _ | refine keep_far ?_ GW1635.out _) | exact HK.out)) hk (.inl rfl))
     have n6_ := Aside0.mk (hb)
     have n7_ := Aside0.mk (hi)
     clear HO_1620000
     clear BK1618
     clear BK1619
     clear BK1635
     clear HK
     clear HB
     clear HI0
     have HO_1620000 := n0_
     have BK1618 := n1_
     have BK1619 := n2_
     have BK1635 := n3_
     have HO1625 := n4_
     have HK := n5_
     have HB := n6_
     have HI0 := n7_
     clear n0_ n1_ n2_ n3_ n4_ n5_ n6_ n7_
     (try clear hb)
     (try clear hb2)
     (try clear hk)
     (try clear hi)
     (try clear ho0)
     obtain ⟨Ao16, co16, eo16⟩ := Kd.R_slice HO1625.out
     (first | subst eo16 | (injection eo16 with f1_ f2_ f3_; have f4_ := f1_.symm; have f5_ := f3_.symm; clear f1_ f2_ f3_; subst f4_; subst f5_))
     refine hK.out _ _ ⟨(blk_cell BK1619.out 0).trans rfl, (blk_cell BK1619.out 1).trans rfl⟩ (fun hHeld => ?_)
     clear hK K
     refine norm_ (a' := ?_) ?_ ?_
     rotate_left
     ·
      show Act.put _ (some 15) _ = _
      simp only [fr_]
      rfl
     refine one_ (i := 3) (N := some 16) #[t_,t_,t_,t_,t_,f_] rfl rfl (by kernel_rfl) (by decide) (fun K hK => ?_)
     refine goes_ Try.func22 (by kernel_rfl) rfl #[.agg #[.slice Ao12 x1620000_1.length co12, .bool x1620001_1], .agg #[.slice Ao16 t1623.length co16, .int .i64 t1626, .int .i64 t1627, .string t1628]] (by rfl) rfl rfl (by (try simp only [mp_]); first | done | rfl | (simp only [List.length_drop, List.length_take]; rfl)) ?_
     with_reducible refine (spec_Tell.calls k1 _ _ x1620000_1 x1620001_1 _ _ t1623 t1626 t1627 t1628 t1631 t1634 _ ?side1 ?side2 ?side3 ?side4 A11.out).mono ?_
     (case side1 => repeat (first | exact (Kd.S_reads' HO_1620000.out).2.2 | (with_reducible first | refine ca_ ?_ _ | refine cn_ ?_ _ | refine cd_ ?_)))
     (case side2 => exact (Kd.S_reads' HO_1620000.out).2.1)
     (case side3 => repeat (first | exact (Kd.R_reads' HO1625.out).2.2 | (with_reducible first | refine ca_ ?_ _ | refine cn_ ?_ _ | refine cd_ ?_)))
     (case side4 => exact (Kd.R_reads' HO1625.out).2.1)
     rintro e w17 ⟨v1632, rfl, ho0, hb⟩
     refine ⟨_, rfl, ?_⟩
     have n0_ := Aside0.mk (Kd.S_elder' (sp_ HO_1620000.out) (Kd.S_base ho0) hb)
     have n1_ := Aside0.mk (Kd.R_below (rp_ HO1625.out) hb)
     have n2_ := Aside0.mk (Kd.S_lower (Kd.S_new' (Kd.S_new' ho0 (Kd.S_lt (sp_ HO_1620000.out))) (Kd.R_lt (rp_ HO1625.out))) (keep_size (w := w) (g := g) (row := none) (by repeat (first | (with_reducible first | exact HK.out | apply KeepBut.set_ | apply keep_drewN | apply keep_drew | apply keep_alloc | refine keep_far ?_ GW1618.out _ | refine keep_far ?_ GW1619.out _ | refine keep_far ?_ GW1635.out _) | exact HK.out))))
     have n3_ := Aside0.mk (bb_ BK1618.out hb)
     have n4_ := Aside0.mk (bb_ BK1619.out hb)
     have n5_ := Aside0.mk (IsS173.below (by repeat (first | (with_reducible first | exact HI0.out | apply IsS173.alloc | apply IsS173.drewN | apply IsS173.drew | apply IsS173.set_1 | apply IsS173.set_2 | refine IsS173.far ?_ NB0_1618.out _ | refine IsS173.far ?_ NB0_1619.out _ | refine IsS173.far ?_ NB0_1635.out _) | exact HI0.out)) hb)
     have n6_ := Aside0.mk (bb_ BK1635.out hb)
     have n7_ := Aside0.mk (KeepBut.trans (by repeat (first | (with_reducible first | exact HK.out | apply KeepBut.set_ | apply keep_drewN | apply keep_drew | apply keep_alloc | refine keep_far ?_ GW1618.out _ | refine keep_far ?_ GW1619.out _ | refine keep_far ?_ GW1635.out _) | exact HK.out)) (KeepBut.of_below hb g none) (.inl rfl))
     have n8_ := Aside0.mk (below_step (by repeat (first | (with_reducible first | exact HB.out | apply ba_ | apply bn_ | apply bd_ | refine below_set ?_ (IsS173.ge HI0.out) | refine below_set ?_ GE1618.out | refine below_set ?_ GE1619.out | refine below_set ?_ GE1635.out) | exact HB.out)) hb)
     clear HO_1620000
     clear HO1625
     clear BK1618
     clear BK1619
     clear HI0
     clear BK1635
     clear HK
     clear HB
     have HO_1620000 := n0_
     have HO1625 := n1_
     have HO1633 := n2_
     have BK1618 := n3_
     have BK1619 := n4_
     have HI0 := n5_
     have BK1635 := n6_
     have HK := n7_
     have HB := n8_
     clear n0_ n1_ n2_ n3_ n4_ n5_ n6_ n7_ n8_
     (try clear hb)
     (try clear hb2)
     (try clear hk)
     (try clear hi)
     (try clear ho0)
     refine hK.out _ _ ⟨(blk_cell BK1619.out 0).trans rfl, (blk_cell BK1619.out 1).trans rfl⟩ (fun hHeld => ?_)
     clear hK K
     refine norm_ (a' := ?_) ?_ ?_
     rotate_left
     ·
      show Act.put _ (some 16) _ = _
      simp only [fr_]
      rfl
     exact norm_ (by simp only [putAll, Act.put, List.setIfInBounds_toArray, List.set_cons_zero, List.set_cons_succ]) (hCont (.slice Ao16 t1623.length co16, v1632, gb1635) _ ⟨hHeld, (rp_ HO1625.out), (by (with_reducible repeat (first | apply Kd.S_alloc | apply Kd.S_drewN | apply Kd.S_drew)); exact Kd.S_mono HO1633.out (fun _ hk => ⟨hk.2, hk.1.2⟩)), (by (with_reducible repeat (first | apply Kd.S_alloc | apply Kd.S_drewN | apply Kd.S_drew)); exact Kd.S_mono HO_1620000.out (fun _ hk => ⟨hk.1.2, hk.2⟩)), (pb_ BK1618.out), (pb_ BK1619.out), (pb_ BK1635.out), GW1635.out, GE1635.out, NB0_1635.out, NB1635_0.out, NB1618_1635.out, NB1635_1618.out, NB1619_1635.out, NB1635_1619.out, (by repeat (first | (with_reducible first | exact HI0.out | apply IsS173.alloc | apply IsS173.drewN | apply IsS173.drew | apply IsS173.set_1 | apply IsS173.set_2 | refine IsS173.far ?_ NB0_1618.out _ | refine IsS173.far ?_ NB0_1619.out _ | refine IsS173.far ?_ NB0_1635.out _) | exact HI0.out)), (by repeat (first | (with_reducible first | exact HK.out | apply KeepBut.set_ | apply keep_drewN | apply keep_drew | apply keep_alloc | refine keep_far ?_ GW1618.out _ | refine keep_far ?_ GW1619.out _ | refine keep_far ?_ GW1635.out _) | exact HK.out)), (by repeat (first | (with_reducible first | exact HB.out | apply ba_ | apply bn_ | apply bd_ | refine below_set ?_ (IsS173.ge HI0.out) | refine below_set ?_ GE1618.out | refine below_set ?_ GE1619.out | refine below_set ?_ GE1635.out) | exact HB.out))⟩)
    rintro ⟨v1624, v1632, gb1635⟩ w18 ⟨hS_, h0_, h1_, h2_, h3_, h4_, h5_, h6_, h7_, h8_, h9_, h10_, h11_, h12_, h13_, h14_, h15_, h16_⟩
    have n0_ : Aside0 (Kd.R k164 164 w18 w.heap.size (fun _ => True) v1624 t1623) := ⟨h0_⟩
    have n1_ : Aside0 (Kd.S k44 44 w18 w.heap.size (fun k_ => some k_ ≠ (v1624 : Value).ownBlock ∧ some k_ ≠ (.slice Ao12 x1620000_1.length co12 : Value).ownBlock) v1632 t1631) := ⟨h1_⟩
    have n2_ : Aside0 (Kd.S k44 44 w18 w.heap.size (fun k_ => some k_ ≠ (v1624 : Value).ownBlock ∧ some k_ ≠ (v1632 : Value).ownBlock) (.slice Ao12 x1620000_1.length co12) x1620000_1) := ⟨h2_⟩
    have n3_ : Aside0 (w18.heap[gb1618]? = some (.cells #[.slice none 0 0, .bool false] 39 (0, 0))) := ⟨h3_⟩
    have n4_ : Aside0 (w18.heap[gb1619]? = some (.cells #[.slice Ao12 x1620000_1.length co12, .bool x1620001_1] 39 (0, 0))) := ⟨h4_⟩
    have n5_ : Aside0 (w18.heap[gb1635]? = some (.cells #[.slice none 0 0, .bool false] 39 (0, 0))) := ⟨h5_⟩
    have n6_ : Aside0 (w.heap.size ≤ gb1635) := ⟨h6_⟩
    have n7_ : Aside0 (w0.heap.size ≤ gb1635) := ⟨h7_⟩
    have n8_ : Aside0 (g ≠ gb1635) := ⟨h8_⟩
    have n9_ : Aside0 (gb1635 ≠ g) := ⟨h9_⟩
    have n10_ : Aside0 (gb1618 ≠ gb1635) := ⟨h10_⟩
    have n11_ : Aside0 (gb1635 ≠ gb1618) := ⟨h11_⟩
    have n12_ : Aside0 (gb1619 ≠ gb1635) := ⟨h12_⟩
    have n13_ : Aside0 (gb1635 ≠ gb1619) := ⟨h13_⟩
    have n14_ : Aside0 (IsS173 w0 w18 g s0_0 t1629 t1630) := ⟨h14_⟩
    have n15_ : Aside0 (KeepBut w w18 g none) := ⟨h15_⟩
    have n16_ : Aside0 (Below w0.heap.size w0 w18) := ⟨h16_⟩
    clear HO_1620000
    clear BK1618
    clear BK1619
    clear HI0
    clear HK
    clear HB
    clear h0_ h1_ h2_ h3_ h4_ h5_ h6_ h7_ h8_ h9_ h10_ h11_ h12_ h13_ h14_ h15_ h16_
    have HO1625 := n0_
    have HO1633 := n1_
    have HO_1620000 := n2_
    have BK1618 := n3_
    have BK1619 := n4_
    have BK1635 := n5_
    have GW1635 := n6_
    have GE1635 := n7_
    have NB0_1635 := n8_
    have NB1635_0 := n9_
    have NB1618_1635 := n10_
    have NB1635_1618 := n11_
    have NB1619_1635 := n12_
    have NB1635_1619 := n13_
    have HI0 := n14_
    have HK := n15_
    have HB := n16_
    clear n0_ n1_ n2_ n3_ n4_ n5_ n6_ n7_ n8_ n9_ n10_ n11_ n12_ n13_ n14_ n15_ n16_
    have hHeld : w18.cell? ⟨gb1619, 0, none⟩ = some (.slice Ao12 x1620000_1.length co12) ∧ w18.cell? ⟨gb1619, 1, none⟩ = some (.bool x1620001_1) := hS_
    obtain ⟨Ao19, co19, eo19⟩ := Kd.S_slice HO1633.out
    (first | subst eo19 | (injection eo19 with f1_ f2_ f3_; have f4_ := f1_.symm; have f5_ := f3_.symm; clear f1_ f2_ f3_; subst f4_; subst f5_))
    refine norm_ (a' := ?_) ?_ ?_
    rotate_left
    ·
     simp only [putAll, Act.put, List.setIfInBounds_toArray, List.set_cons_zero, List.set_cons_succ]
     rfl
    refine one_ (i := 5) (N := none) #[t_,t_,t_,t_,t_,t_] rfl rfl (by kernel_rfl) (by decide) (fun K hK => ?_)
    have hs20 : w18.cell? ⟨gb1635, 0, none⟩ = some (.slice none 0 0) := (blk_cell BK1635.out 0).trans rfl
    have hfs20 := blk_frozen BK1635.out 0
    have hns20_0 := NB1618_1635.out
    have hns20_1 := NB1619_1635.out
    have hms20_0 := NB1635_1618.out
    have hms20_1 := NB1635_1619.out
    have hs21 : w18.cell? ⟨gb1635, 1, none⟩ = some (.bool false) := (blk_cell BK1635.out 1).trans rfl
    have hfs21 := blk_frozen BK1635.out 1
    have hns21_0 := NB1618_1635.out
    have hns21_1 := NB1619_1635.out
    have hms21_0 := NB1635_1618.out
    have hms21_1 := NB1635_1619.out
    refine skip_ (w1 := ?_) (by rfl) rfl ?_ ?_
    rotate_left
    ·
     go_simp
     rfl
    refine hK.out _ _ ⟨((cell_far (p := ⟨gb1635, _, none⟩) NB1619_1635.out _).trans (((cell_far (p := ⟨gb1635, _, none⟩) NB1619_1635.out _).trans (hHeld.1)))), ((cell_far (p := ⟨gb1635, _, none⟩) NB1619_1635.out _).trans (((cell_far (p := ⟨gb1635, _, none⟩) NB1619_1635.out _).trans (hHeld.2))))⟩ (fun hHeld => ?_)
    clear hK K
    refine done_ (by kernel_rfl) ?_
    have hnb22 := NB1635_1618.out
    have hnc22 := NB1618_1635.out
    have hnb23 := NB1635_1619.out
    have hnc23 := NB1619_1635.out
    have hnb24 := NB1635_0.out
    have hnc24 := NB0_1635.out
    have hcz25_0 : w18.cell? ⟨gb1635, 0, none⟩ = some (.slice none 0 0) := (blk_cell BK1635.out 0).trans rfl
    have hcz25_1 : w18.cell? ⟨gb1635, 1, none⟩ = some (.bool false) := (blk_cell BK1635.out 1).trans rfl
    have hfz25_0 := blk_frozen BK1635.out 0
    have hfz25_1 := blk_frozen BK1635.out 1
    have hnb26 := NB1619_1618.out
    have hnc26 := NB1618_1619.out
    have hnb27 := NB1619_0.out
    have hnc27 := NB0_1619.out
    have hcz28_0 : w18.cell? ⟨gb1619, 0, none⟩ = some (.slice Ao12 x1620000_1.length co12) := (blk_cell BK1619.out 0).trans rfl
    have hcz28_1 : w18.cell? ⟨gb1619, 1, none⟩ = some (.bool x1620001_1) := (blk_cell BK1619.out 1).trans rfl
    have hfz28_0 := blk_frozen BK1619.out 0
    have hfz28_1 := blk_frozen BK1619.out 1
    try go_wp2
    go_roundg k1
    case measure => have := HK1.out; omega
    case rel => exact ⟨(wrap64 (x4_1 - 1)), (t1629), (t1630), (t1631), (t1634), (.slice Ao19 t1631.length co19), (by first | rfl | (simp; done) | (simp [*]; done)), H', ⟨by have := HK1.out; omega⟩, ⟨by (with_reducible repeat (first | apply Kd.S_alloc | apply Kd.S_drewN | apply Kd.S_drew)); exact Kd.S_mono (Kd.S_far (p := ⟨gb1619, 1, none⟩) (Kd.S_far (p := ⟨gb1619, 0, none⟩) (Kd.S_far (p := ⟨gb1635, 1, none⟩) (Kd.S_far (p := ⟨gb1635, 0, none⟩) (Kd.S_types (Kd.S_types HO1633.out BK1635.out (by decide)) BK1619.out (by decide)) (fun _ hk => hk.1.2) (.slice Ao19 t1631.length co19)) (fun _ hk => hk.1.2) (.bool t1634)) (fun _ hk => hk.2) (.slice Ao19 t1631.length co19)) (fun _ hk => hk.2) (.bool t1634)) (fun _ hk => trivial)⟩, ⟨by (with_reducible repeat (first | refine kn_ ?_ _ | refine kd_ ?_ | refine ka_ ?_ _)); refine blk_far ?_ NB1618_1619.out _; (with_reducible repeat (first | refine kn_ ?_ _ | refine kd_ ?_ | refine ka_ ?_ _)); refine blk_far ?_ NB1618_1619.out _; (with_reducible repeat (first | refine kn_ ?_ _ | refine kd_ ?_ | refine ka_ ?_ _)); refine blk_far ?_ NB1618_1635.out _; (with_reducible repeat (first | refine kn_ ?_ _ | refine kd_ ?_ | refine ka_ ?_ _)); refine blk_far ?_ NB1618_1635.out _; (with_reducible repeat (first | refine kn_ ?_ _ | refine kd_ ?_ | refine ka_ ?_ _)); exact BK1618.out⟩, ⟨by (with_reducible repeat (first | refine kn_ ?_ _ | refine kd_ ?_ | refine ka_ ?_ _)); refine blk_put (cs := #[.slice Ao19 t1631.length co19, .bool x1620001_1]) ?_ 1 _ rfl; (with_reducible repeat (first | refine kn_ ?_ _ | refine kd_ ?_ | refine ka_ ?_ _)); refine blk_put (cs := #[.slice Ao12 x1620000_1.length co12, .bool x1620001_1]) ?_ 0 _ rfl; (with_reducible repeat (first | refine kn_ ?_ _ | refine kd_ ?_ | refine ka_ ?_ _)); refine blk_far ?_ NB1619_1635.out _; (with_reducible repeat (first | refine kn_ ?_ _ | refine kd_ ?_ | refine ka_ ?_ _)); refine blk_far ?_ NB1619_1635.out _; (with_reducible repeat (first | refine kn_ ?_ _ | refine kd_ ?_ | refine ka_ ?_ _)); exact BK1619.out⟩, ⟨by repeat (first | (with_reducible first | exact HI0.out | apply IsS173.alloc | apply IsS173.drewN | apply IsS173.drew | apply IsS173.set_1 | apply IsS173.set_2 | refine IsS173.far ?_ NB0_1618.out _ | refine IsS173.far ?_ NB0_1619.out _ | refine IsS173.far ?_ NB0_1635.out _) | exact HI0.out)⟩, ⟨by repeat (first | (with_reducible first | exact HK.out | apply KeepBut.set_ | apply keep_drewN | apply keep_drew | apply keep_alloc | refine keep_far ?_ GW1618.out _ | refine keep_far ?_ GW1619.out _ | refine keep_far ?_ GW1635.out _) | exact HK.out)⟩, ⟨by repeat (first | (with_reducible first | exact HB.out | apply ba_ | apply bn_ | apply bd_ | refine below_set ?_ (IsS173.ge HI0.out) | refine below_set ?_ GE1618.out | refine below_set ?_ GE1619.out | refine below_set ?_ GE1635.out) | exact HB.out)⟩⟩
   rw [if_neg c9] at H
   have c9b0 : decide (0 < x4_1) = false := decide_eq_false c9
   clear c9
   simp only [Option.some.injEq, Prod.mk.injEq] at H
   obtain ⟨rfl, rfl, rfl, rfl⟩ := H
   have hnb29 := NB1619_1618.out
   have hnc29 := NB1618_1619.out
   have hnb30 := NB1619_0.out
   have hnc30 := NB0_1619.out
   have hcz31_0 : wr.cell? ⟨gb1619, 0, none⟩ = some (u1620000) := (blk_cell BK1619.out 0).trans rfl
   have hcz31_1 : wr.cell? ⟨gb1619, 1, none⟩ = some (.bool x1620001_1) := (blk_cell BK1619.out 1).trans rfl
   have hfz31_0 := blk_frozen BK1619.out 0
   have hfz31_1 := blk_frozen BK1619.out 1
   obtain ⟨Ao32, co32, eo32⟩ := Kd.S_slice HO_1620000.out
   subst eo32
   have hnb33 := NB1618_0.out
   have hnc33 := NB0_1618.out
   have hcz34_0 : wr.cell? ⟨gb1618, 0, none⟩ = some (.slice none 0 0) := (blk_cell BK1618.out 0).trans rfl
   have hcz34_1 : wr.cell? ⟨gb1618, 1, none⟩ = some (.bool false) := (blk_cell BK1618.out 1).trans rfl
   have hfz34_0 := blk_frozen BK1618.out 0
   have hfz34_1 := blk_frozen BK1618.out 1
   go_wp2
   refine bodyPost_ret (results_cell_row rfl _ _ gb1618 39 #[.slice Ao32 x1620000_1.length co32, .bool x1620001_1] (0, 0) _ rfl (by (with_reducible repeat (first | refine kn_ ?_ _ | refine kd_ ?_ | refine ka_ ?_ _)); refine blk_put (cs := #[.slice Ao32 x1620000_1.length co32, .bool false]) ?_ 1 _ rfl; (with_reducible repeat (first | refine kn_ ?_ _ | refine kd_ ?_ | refine ka_ ?_ _)); refine blk_put (cs := #[.slice none 0 0, .bool false]) ?_ 0 _ rfl; (with_reducible repeat (first | refine kn_ ?_ _ | refine kd_ ?_ | refine ka_ ?_ _)); exact BK1618.out) Try.underlying39 rfl (by kernel_rfl)) rfl ?_
   exact ⟨_, by first | rfl | (simp [errW_none, errW_some] <;> rfl) | (simp [*, errW_none, errW_some] <;> rfl), by (with_reducible repeat (first | apply Kd.S_alloc | apply Kd.S_drewN | apply Kd.S_drew)); exact Kd.S_mono (Kd.S_far (p := ⟨gb1618, 1, none⟩) (Kd.S_far (p := ⟨gb1618, 0, none⟩) (Kd.S_types HO_1620000.out BK1618.out (by decide)) (fun _ hk => hk.2) (.slice Ao32 x1620000_1.length co32)) (fun _ hk => hk.2) (.bool x1620001_1)) (fun _ hk => trivial), by repeat (first | (with_reducible first | exact HI0.out | apply IsS173.alloc | apply IsS173.drewN | apply IsS173.drew | apply IsS173.set_1 | apply IsS173.set_2 | refine IsS173.far ?_ NB0_1618.out _ | refine IsS173.far ?_ NB0_1619.out _) | exact HI0.out), by repeat (first | (with_reducible first | exact HB.out | apply ba_ | apply bn_ | apply bd_ | refine below_set ?_ (IsS173.ge HI0.out) | refine below_set ?_ GE1618.out | refine below_set ?_ GE1619.out) | exact HB.out), by repeat (first | (with_reducible first | exact HK.out | apply KeepBut.set_ | apply keep_drewN | apply keep_drew | apply keep_alloc | refine keep_far ?_ GW1618.out _ | refine keep_far ?_ GW1619.out _) | exact HK.out)⟩
def spec_l1AnyPlain.f (s0_0 : List Int) (s0_1 : Int) (s0_2 : Int) : Option (ByteArray × Int × Int) := (spec_l1Once.f s0_0 s0_1 s0_2 2).bind fun bt1636 => (if bt1636.1 = true then ((spec_l1Plain.f s0_0 bt1636.2.1 bt1636.2.2).bind fun bt1639 => (some (bt1639.1, bt1639.2.1, bt1639.2.2))) else ((spec_l1Str.f s0_0 bt1636.2.1 bt1636.2.2 (([(⟨#[34]⟩ : ByteArray), (⟨#[92]⟩ : ByteArray), (⟨#[127]⟩ : ByteArray), (⟨#[31]⟩ : ByteArray), (⟨#[116, 119, 101, 108, 118, 101, 32, 98, 121, 116, 101, 115]⟩ : ByteArray), (⟨#[116, 104, 105, 114, 116, 101, 101, 110, 98, 121, 116, 101, 115]⟩ : ByteArray), (⟨#[126]⟩ : ByteArray), (⟨#[125]⟩ : ByteArray), (⟨#[44, 32, 98, 61]⟩ : ByteArray), (⟨#[125, 32, 49, 45, 50]⟩ : ByteArray)] : List ByteArray))).bind fun bt1645 => (some (bt1645.1, bt1645.2.1, bt1645.2.2))))
theorem spec_l1AnyPlain.calls (g : Nat) (s0_0 : List Int) (s0_1 : Int) (s0_2 : Int) (r1 : ByteArray) (r2 : Int) (r3 : Int) (w0 w : World) (hI : IsS173 w0 w g s0_0 s0_1 s0_2) (hB : Below w0.heap.size w0 w) (h : spec_l1AnyPlain.f s0_0 s0_1 s0_2 = some (r1, r2, r3)) :
  Calls Try.prog 173 #[.pointer (some ⟨g, 0, none⟩)] w fun e w' => e = .returned (.string r1) ∧ IsS173 w0 w' g s0_0 r2 r3 ∧ Below w0.heap.size w0 w' ∧ KeepBut w w' g none := by
 have HI0 := Aside0.mk hI
 have HK := Aside0.mk (KeepBut.refl w g none)
 have HL := Aside0.mk hB.size
 clear hI
 have HW0 := Aside0.mk hB.size
 have HB := Aside0.mk hB
 clear hB
 have H : ((spec_l1Once.f s0_0 s0_1 s0_2 2).bind fun bt1636 => (if bt1636.1 = true then ((spec_l1Plain.f s0_0 bt1636.2.1 bt1636.2.2).bind fun bt1639 => (some (bt1639.1, bt1639.2.1, bt1639.2.2))) else ((spec_l1Str.f s0_0 bt1636.2.1 bt1636.2.2 (([(⟨#[34]⟩ : ByteArray), (⟨#[92]⟩ : ByteArray), (⟨#[127]⟩ : ByteArray), (⟨#[31]⟩ : ByteArray), (⟨#[116, 119, 101, 108, 118, 101, 32, 98, 121, 116, 101, 115]⟩ : ByteArray), (⟨#[116, 104, 105, 114, 116, 101, 101, 110, 98, 121, 116, 101, 115]⟩ : ByteArray), (⟨#[126]⟩ : ByteArray), (⟨#[125]⟩ : ByteArray), (⟨#[44, 32, 98, 61]⟩ : ByteArray), (⟨#[125, 32, 49, 45, 50]⟩ : ByteArray)] : List ByteArray))).bind fun bt1645 => (some (bt1645.1, bt1645.2.1, bt1645.2.2))))) = some (r1, r2, r3) := h
 clear h
 replace H := Option.bind_eq_some_iff.mp H
 obtain ⟨⟨t1636, t1637, t1638⟩, A20, H⟩ := H
 have A2 := Aside0.mk A20
 clear A20
 by_cases c3 : t1636 = true
 ·
  subst c3
  rw [if_pos rfl] at H
  replace H := Option.bind_eq_some_iff.mp H
  obtain ⟨⟨t1639, t1640, t1641⟩, A40, H⟩ := H
  have A4 := Aside0.mk A40
  clear A40
  simp only [Option.some.injEq, Prod.mk.injEq] at H
  obtain ⟨rfl, rfl, rfl⟩ := H
  go_enter Try.func173, Try.ntmps173
  go_wp2_with (first | ((with_reducible refine gate_callee (f := 136) rfl ?_); refine goesL_ (some 4) rfl rfl Try.func136 (by kernel_rfl) rfl #[.pointer (some ⟨g, 0, none⟩), .int .i64 2] rfl (by (try simp only [mp_]); first | done | rfl | (simp only [List.length_drop, List.length_take]; rfl)) ?_; (with_reducible refine (spec_l1Once.calls g s0_0 s0_1 s0_2 2 true t1637 t1638 w0 _ ?side1 ?side2 A2.out).mono ?_); (case side1 => repeat (first | (with_reducible first | exact HI0.out | apply IsS173.alloc | apply IsS173.drewN | apply IsS173.drew | apply IsS173.set_1 | apply IsS173.set_2) | exact HI0.out)); (case side2 => repeat (first | (with_reducible first | exact HB.out | apply ba_ | apply bn_ | apply bd_ | refine below_set ?_ (IsS173.ge HI0.out)) | exact HB.out)); rintro e w5 ⟨rfl, hi, hb, hk⟩; refine ⟨_, rfl, ?_⟩; have n0_ := Aside0.mk (KeepBut.trans (by repeat (first | (with_reducible first | exact HK.out | apply KeepBut.set_ | apply keep_drewN | apply keep_drew | apply keep_alloc) | exact HK.out)) hk (.inl rfl)); have n1_ := Aside0.mk (hb); have n2_ := Aside0.mk (hi); clear HK; clear HB; clear HI0; have HK := n0_; have HB := n1_; have HI0 := n2_; clear n0_ n1_ n2_; (try clear hb); (try clear hb2); (try clear hk); (try clear hi)) | ((with_reducible refine gate_callee (f := 161) rfl ?_); refine goesL_ (some 6) rfl rfl Try.func161 (by kernel_rfl) rfl #[.pointer (some ⟨g, 0, none⟩)] rfl (by (try simp only [mp_]); first | done | rfl | (simp only [List.length_drop, List.length_take]; rfl)) ?_; (with_reducible refine (spec_l1Plain.calls g s0_0 t1637 t1638 t1639 t1640 t1641 w0 _ ?side1 ?side2 A4.out).mono ?_); (case side1 => repeat (first | (with_reducible first | exact HI0.out | apply IsS173.alloc | apply IsS173.drewN | apply IsS173.drew | apply IsS173.set_1 | apply IsS173.set_2) | exact HI0.out)); (case side2 => repeat (first | (with_reducible first | exact HB.out | apply ba_ | apply bn_ | apply bd_ | refine below_set ?_ (IsS173.ge HI0.out)) | exact HB.out)); rintro e w6 ⟨rfl, hi, hb, hk⟩; refine ⟨_, rfl, ?_⟩; have n0_ := Aside0.mk (KeepBut.trans (by repeat (first | (with_reducible first | exact HK.out | apply KeepBut.set_ | apply keep_drewN | apply keep_drew | apply keep_alloc) | exact HK.out)) hk (.inl rfl)); have n1_ := Aside0.mk (hb); have n2_ := Aside0.mk (hi); clear HK; clear HB; clear HI0; have HK := n0_; have HB := n1_; have HI0 := n2_; clear n0_ n1_ n2_; (try clear hb); (try clear hb2); (try clear hk); (try clear hi)))
  go_ret
  exact ⟨by first | rfl | (simp [errW_none, errW_some] <;> rfl) | (simp [*, errW_none, errW_some] <;> rfl), by repeat (first | (with_reducible first | exact HI0.out | apply IsS173.alloc | apply IsS173.drewN | apply IsS173.drew | apply IsS173.set_1 | apply IsS173.set_2) | exact HI0.out), by repeat (first | (with_reducible first | exact HB.out | apply ba_ | apply bn_ | apply bd_ | refine below_set ?_ (IsS173.ge HI0.out)) | exact HB.out), by repeat (first | (with_reducible first | exact HK.out | apply KeepBut.set_ | apply keep_drewN | apply keep_drew | apply keep_alloc) | exact HK.out)⟩
 replace c3 := Bool.eq_false_iff.mpr c3
 subst c3
 rw [if_neg (show ¬ (false = true) by decide)] at H
 obtain ⟨y1642, hy1642⟩ : ∃ y_ : List ByteArray, y_ = (([(⟨#[34]⟩ : ByteArray), (⟨#[92]⟩ : ByteArray), (⟨#[127]⟩ : ByteArray), (⟨#[31]⟩ : ByteArray), (⟨#[116, 119, 101, 108, 118, 101, 32, 98, 121, 116, 101, 115]⟩ : ByteArray), (⟨#[116, 104, 105, 114, 116, 101, 101, 110, 98, 121, 116, 101, 115]⟩ : ByteArray), (⟨#[126]⟩ : ByteArray), (⟨#[125]⟩ : ByteArray), (⟨#[44, 32, 98, 61]⟩ : ByteArray), (⟨#[125, 32, 49, 45, 50]⟩ : ByteArray)] : List ByteArray)) := ⟨_, rfl⟩
 replace H : ((spec_l1Str.f s0_0 t1637 t1638 y1642).bind fun bt1645 => (some (bt1645.1, bt1645.2.1, bt1645.2.2))) = some (r1, r2, r3) := by first | (rw [hy1642]; with_reducible exact H) | (have H2_ := (Option.bind_some _ _).symm.trans H; rw [hy1642]; with_reducible exact H2_) | (have H2_ := (Option.bind_some _ _).symm.trans H; with_reducible exact H2_) | with_reducible exact H | (rw [hy1642]; exact H) | exact H
 have Ny1642 := Aside0.mk hy1642
 clear hy1642
 replace H := Option.bind_eq_some_iff.mp H
 obtain ⟨⟨t1645, t1646, t1647⟩, A70, H⟩ := H
 have A7 := Aside0.mk A70
 clear A70
 simp only [Option.some.injEq, Prod.mk.injEq] at H
 obtain ⟨rfl, rfl, rfl⟩ := H
 go_enter Try.func173, Try.ntmps173
 go_wp2_with (first | ((with_reducible refine gate_callee (f := 136) rfl ?_); refine goesL_ (some 4) rfl rfl Try.func136 (by kernel_rfl) rfl #[.pointer (some ⟨g, 0, none⟩), .int .i64 2] rfl (by (try simp only [mp_]); first | done | rfl | (simp only [List.length_drop, List.length_take]; rfl)) ?_; (with_reducible refine (spec_l1Once.calls g s0_0 s0_1 s0_2 2 false t1637 t1638 w0 _ ?side1 ?side2 A2.out).mono ?_); (case side1 => repeat (first | (with_reducible first | exact HI0.out | apply IsS173.alloc | apply IsS173.drewN | apply IsS173.drew | apply IsS173.set_1 | apply IsS173.set_2) | exact HI0.out)); (case side2 => repeat (first | (with_reducible first | exact HB.out | apply ba_ | apply bn_ | apply bd_ | refine below_set ?_ (IsS173.ge HI0.out)) | exact HB.out)); rintro e w8 ⟨rfl, hi, hb, hk⟩; refine ⟨_, rfl, ?_⟩; have n0_ := Aside0.mk (KeepBut.trans (by repeat (first | (with_reducible first | exact HK.out | apply KeepBut.set_ | apply keep_drewN | apply keep_drew | apply keep_alloc) | exact HK.out)) hk (.inl rfl)); have n1_ := Aside0.mk (hb); have n2_ := Aside0.mk (hi); clear HK; clear HB; clear HI0; have HK := n0_; have HB := n1_; have HI0 := n2_; clear n0_ n1_ n2_; (try clear hb); (try clear hb2); (try clear hk); (try clear hi)) | ((with_reducible refine gate_dst (N := 8) rfl ?_); refine Kd.R_lit Kd.string _ 9 ?hg (N := 8) ?hd (xs := ([(⟨#[34]⟩ : ByteArray), (⟨#[92]⟩ : ByteArray), (⟨#[127]⟩ : ByteArray), (⟨#[31]⟩ : ByteArray), (⟨#[116, 119, 101, 108, 118, 101, 32, 98, 121, 116, 101, 115]⟩ : ByteArray), (⟨#[116, 104, 105, 114, 116, 101, 101, 110, 98, 121, 116, 101, 115]⟩ : ByteArray), (⟨#[126]⟩ : ByteArray), (⟨#[125]⟩ : ByteArray), (⟨#[44, 32, 98, 61]⟩ : ByteArray), (⟨#[125, 32, 49, 45, 50]⟩ : ByteArray)] : List ByteArray)) (inner := [.string (⟨#[34]⟩ : ByteArray), .string (⟨#[92]⟩ : ByteArray), .string (⟨#[127]⟩ : ByteArray), .string (⟨#[31]⟩ : ByteArray), .string (⟨#[116, 119, 101, 108, 118, 101, 32, 98, 121, 116, 101, 115]⟩ : ByteArray), .string (⟨#[116, 104, 105, 114, 116, 101, 101, 110, 98, 121, 116, 101, 115]⟩ : ByteArray), .string (⟨#[126]⟩ : ByteArray), .string (⟨#[125]⟩ : ByteArray), .string (⟨#[44, 32, 98, 61]⟩ : ByteArray), .string (⟨#[125, 32, 49, 45, 50]⟩ : ByteArray)]) (ok := fun _ => True) (okp := fun _ => True) ?hr ?hp (fun _ hk => hk) trivial (Below.refl _ _) (Nat.le_refl _) (by simp) ?_; (case hd => rfl); (case hg => rfl); (case hr => first | (go_simp; done) | (go_simp; rfl)); (case hp => exact (Reps.one (show Kd.M Kd.string _ _ _ (⟨#[34]⟩ : ByteArray) [.string (⟨#[34]⟩ : ByteArray)] from rfl) (Reps.one (show Kd.M Kd.string _ _ _ (⟨#[92]⟩ : ByteArray) [.string (⟨#[92]⟩ : ByteArray)] from rfl) (Reps.one (show Kd.M Kd.string _ _ _ (⟨#[127]⟩ : ByteArray) [.string (⟨#[127]⟩ : ByteArray)] from rfl) (Reps.one (show Kd.M Kd.string _ _ _ (⟨#[31]⟩ : ByteArray) [.string (⟨#[31]⟩ : ByteArray)] from rfl) (Reps.one (show Kd.M Kd.string _ _ _ (⟨#[116, 119, 101, 108, 118, 101, 32, 98, 121, 116, 101, 115]⟩ : ByteArray) [.string (⟨#[116, 119, 101, 108, 118, 101, 32, 98, 121, 116, 101, 115]⟩ : ByteArray)] from rfl) (Reps.one (show Kd.M Kd.string _ _ _ (⟨#[116, 104, 105, 114, 116, 101, 101, 110, 98, 121, 116, 101, 115]⟩ : ByteArray) [.string (⟨#[116, 104, 105, 114, 116, 101, 101, 110, 98, 121, 116, 101, 115]⟩ : ByteArray)] from rfl) (Reps.one (show Kd.M Kd.string _ _ _ (⟨#[126]⟩ : ByteArray) [.string (⟨#[126]⟩ : ByteArray)] from rfl) (Reps.one (show Kd.M Kd.string _ _ _ (⟨#[125]⟩ : ByteArray) [.string (⟨#[125]⟩ : ByteArray)] from rfl) (Reps.one (show Kd.M Kd.string _ _ _ (⟨#[44, 32, 98, 61]⟩ : ByteArray) [.string (⟨#[44, 32, 98, 61]⟩ : ByteArray)] from rfl) (Reps.one (show Kd.M Kd.string _ _ _ (⟨#[125, 32, 49, 45, 50]⟩ : ByteArray) [.string (⟨#[125, 32, 49, 45, 50]⟩ : ByteArray)] from rfl) (Reps.none _ _)))))))))))); intro v1643 w9 ho10 hb hg_ hnew_; clear hg_ hnew_; (first | rw [← Ny1642.out] at ho10 | (simp only [Int.reduceToNat] at ho10; rw [← Ny1642.out] at ho10)); have n0_ := Aside0.mk (Kd.R_lower ho10 (keep_size (w := w) (g := g) (row := none) (by repeat (first | (with_reducible first | exact HK.out | apply KeepBut.set_ | apply keep_drewN | apply keep_drew | apply keep_alloc) | exact HK.out)))); have n1_ := Aside0.mk (IsS173.below (by repeat (first | (with_reducible first | exact HI0.out | apply IsS173.alloc | apply IsS173.drewN | apply IsS173.drew | apply IsS173.set_1 | apply IsS173.set_2) | exact HI0.out)) hb); have n2_ := Aside0.mk (KeepBut.trans (by repeat (first | (with_reducible first | exact HK.out | apply KeepBut.set_ | apply keep_drewN | apply keep_drew | apply keep_alloc) | exact HK.out)) (KeepBut.of_below hb g none) (.inl rfl)); have n3_ := Aside0.mk (below_step (by repeat (first | (with_reducible first | exact HB.out | apply ba_ | apply bn_ | apply bd_ | refine below_set ?_ (IsS173.ge HI0.out)) | exact HB.out)) hb); clear HI0; clear HK; clear HB; have HO1644 := n0_; have HI0 := n1_; have HK := n2_; have HB := n3_; clear n0_ n1_ n2_ n3_; clear hb ho10; obtain ⟨Ao11, co11, eo11⟩ := Kd.R_slice HO1644.out; subst eo11) | ((with_reducible refine gate_callee (f := 174) rfl ?_); refine goesL_ (some 9) rfl rfl Try.func174 (by kernel_rfl) rfl #[.pointer (some ⟨g, 0, none⟩), .slice Ao11 y1642.length co11] rfl (by (try simp only [mp_]); first | done | rfl | (simp only [List.length_drop, List.length_take]; rfl)) ?_; (with_reducible refine (spec_l1Str.calls g s0_0 t1637 t1638 _ _ y1642 t1645 t1646 t1647 w0 _ ?side1 ?side2 ?side3 ?side4 ?side5 A7.out).mono ?_); (case side1 => repeat (first | (with_reducible first | exact HI0.out | apply IsS173.alloc | apply IsS173.drewN | apply IsS173.drew | apply IsS173.set_1 | apply IsS173.set_2) | exact HI0.out)); (case side2 => repeat (first | (with_reducible first | exact HB.out | apply ba_ | apply bn_ | apply bd_ | refine below_set ?_ (IsS173.ge HI0.out)) | exact HB.out)); (case side3 => repeat (first | exact (Kd.R_reads' HO1644.out).2.2 | (with_reducible first | refine ca_ ?_ _ | refine cn_ ?_ _ | refine cd_ ?_))); (case side4 => exact (Kd.R_reads' HO1644.out).2.1); (case side5 => exact far_slice (IsS173.own_ne HI0.out HO1644.out (by decide))); rintro e w12 ⟨rfl, hi, hb, hk⟩; refine ⟨_, rfl, ?_⟩; have n0_ := Aside0.mk (Kd.R_mono (Kd.R_keep (IsS173.apart (show IsS173 w0 _ g s0_0 t1637 t1638 from by repeat (first | (with_reducible first | exact HI0.out | apply IsS173.alloc | apply IsS173.drewN | apply IsS173.drew | apply IsS173.set_1 | apply IsS173.set_2) | exact HI0.out)) (rp_ HO1644.out) (by decide)) hk (fun _ h => h.2)) (fun _ h => h.1)); have n1_ := Aside0.mk (KeepBut.trans (by repeat (first | (with_reducible first | exact HK.out | apply KeepBut.set_ | apply keep_drewN | apply keep_drew | apply keep_alloc) | exact HK.out)) hk (.inl rfl)); have n2_ := Aside0.mk (hb); have n3_ := Aside0.mk (hi); clear HO1644; clear HK; clear HB; clear HI0; have HO1644 := n0_; have HK := n1_; have HB := n2_; have HI0 := n3_; clear n0_ n1_ n2_ n3_; (try clear hb); (try clear hb2); (try clear hk); (try clear hi)))
 go_ret
 exact ⟨by first | rfl | (simp [errW_none, errW_some] <;> rfl) | (simp [*, errW_none, errW_some] <;> rfl), by repeat (first | (with_reducible first | exact HI0.out | apply IsS173.alloc | apply IsS173.drewN | apply IsS173.drew | apply IsS173.set_1 | apply IsS173.set_2) | exact HI0.out), by repeat (first | (with_reducible first | exact HB.out | apply ba_ | apply bn_ | apply bd_ | refine below_set ?_ (IsS173.ge HI0.out)) | exact HB.out), by repeat (first | (with_reducible first | exact HK.out | apply KeepBut.set_ | apply keep_drewN | apply keep_drew | apply keep_alloc) | exact HK.out)⟩
def spec_l1Names.f (s0_0 : List Int) (s0_1 : Int) (s0_2 : Int) : Option (ByteArray × Int × Int) := (spec_l1Str.f s0_0 s0_1 s0_2 (([(⟨#[97, 112, 112]⟩ : ByteArray), (⟨#[104, 111, 115, 116]⟩ : ByteArray), (⟨#[115, 101, 118]⟩ : ByteArray), (⟨#[122, 111, 110, 101]⟩ : ByteArray)] : List ByteArray))).bind fun bt1651 => (some (bt1651.1, bt1651.2.1, bt1651.2.2))
theorem spec_l1Names.calls (g : Nat) (s0_0 : List Int) (s0_1 : Int) (s0_2 : Int) (r1 : ByteArray) (r2 : Int) (r3 : Int) (w0 w : World) (hI : IsS173 w0 w g s0_0 s0_1 s0_2) (hB : Below w0.heap.size w0 w) (h : spec_l1Names.f s0_0 s0_1 s0_2 = some (r1, r2, r3)) :
  Calls Try.prog 177 #[.pointer (some ⟨g, 0, none⟩)] w fun e w' => e = .returned (.string r1) ∧ IsS173 w0 w' g s0_0 r2 r3 ∧ Below w0.heap.size w0 w' ∧ KeepBut w w' g none := by
 have HI0 := Aside0.mk hI
 have HK := Aside0.mk (KeepBut.refl w g none)
 have HL := Aside0.mk hB.size
 clear hI
 have HW0 := Aside0.mk hB.size
 have HB := Aside0.mk hB
 clear hB
 have H : ((spec_l1Str.f s0_0 s0_1 s0_2 (([(⟨#[97, 112, 112]⟩ : ByteArray), (⟨#[104, 111, 115, 116]⟩ : ByteArray), (⟨#[115, 101, 118]⟩ : ByteArray), (⟨#[122, 111, 110, 101]⟩ : ByteArray)] : List ByteArray))).bind fun bt1651 => (some (bt1651.1, bt1651.2.1, bt1651.2.2))) = some (r1, r2, r3) := h
 clear h
 obtain ⟨y1648, hy1648⟩ : ∃ y_ : List ByteArray, y_ = (([(⟨#[97, 112, 112]⟩ : ByteArray), (⟨#[104, 111, 115, 116]⟩ : ByteArray), (⟨#[115, 101, 118]⟩ : ByteArray), (⟨#[122, 111, 110, 101]⟩ : ByteArray)] : List ByteArray)) := ⟨_, rfl⟩
 replace H : ((spec_l1Str.f s0_0 s0_1 s0_2 y1648).bind fun bt1651 => (some (bt1651.1, bt1651.2.1, bt1651.2.2))) = some (r1, r2, r3) := by first | (rw [hy1648]; with_reducible exact H) | (have H2_ := (Option.bind_some _ _).symm.trans H; rw [hy1648]; with_reducible exact H2_) | (have H2_ := (Option.bind_some _ _).symm.trans H; with_reducible exact H2_) | with_reducible exact H | (rw [hy1648]; exact H) | exact H
 have Ny1648 := Aside0.mk hy1648
 clear hy1648
 replace H := Option.bind_eq_some_iff.mp H
 obtain ⟨⟨t1651, t1652, t1653⟩, A20, H⟩ := H
 have A2 := Aside0.mk A20
 clear A20
 simp only [Option.some.injEq, Prod.mk.injEq] at H
 obtain ⟨rfl, rfl, rfl⟩ := H
 go_enter Try.func177, Try.ntmps177
 go_wp2_with (first | ((with_reducible refine gate_dst (N := 4) rfl ?_); refine Kd.R_lit Kd.string _ 9 ?hg (N := 4) ?hd (xs := ([(⟨#[97, 112, 112]⟩ : ByteArray), (⟨#[104, 111, 115, 116]⟩ : ByteArray), (⟨#[115, 101, 118]⟩ : ByteArray), (⟨#[122, 111, 110, 101]⟩ : ByteArray)] : List ByteArray)) (inner := [.string (⟨#[97, 112, 112]⟩ : ByteArray), .string (⟨#[104, 111, 115, 116]⟩ : ByteArray), .string (⟨#[115, 101, 118]⟩ : ByteArray), .string (⟨#[122, 111, 110, 101]⟩ : ByteArray)]) (ok := fun _ => True) (okp := fun _ => True) ?hr ?hp (fun _ hk => hk) trivial (Below.refl _ _) (Nat.le_refl _) (by simp) ?_; (case hd => rfl); (case hg => rfl); (case hr => first | (go_simp; done) | (go_simp; rfl)); (case hp => exact (Reps.one (show Kd.M Kd.string _ _ _ (⟨#[97, 112, 112]⟩ : ByteArray) [.string (⟨#[97, 112, 112]⟩ : ByteArray)] from rfl) (Reps.one (show Kd.M Kd.string _ _ _ (⟨#[104, 111, 115, 116]⟩ : ByteArray) [.string (⟨#[104, 111, 115, 116]⟩ : ByteArray)] from rfl) (Reps.one (show Kd.M Kd.string _ _ _ (⟨#[115, 101, 118]⟩ : ByteArray) [.string (⟨#[115, 101, 118]⟩ : ByteArray)] from rfl) (Reps.one (show Kd.M Kd.string _ _ _ (⟨#[122, 111, 110, 101]⟩ : ByteArray) [.string (⟨#[122, 111, 110, 101]⟩ : ByteArray)] from rfl) (Reps.none _ _)))))); intro v1649 w3 ho4 hb hg_ hnew_; clear hg_ hnew_; (first | rw [← Ny1648.out] at ho4 | (simp only [Int.reduceToNat] at ho4; rw [← Ny1648.out] at ho4)); have n0_ := Aside0.mk (Kd.R_lower ho4 (keep_size (w := w) (g := g) (row := none) (by repeat (first | (with_reducible first | exact HK.out | apply KeepBut.set_ | apply keep_drewN | apply keep_drew | apply keep_alloc) | exact HK.out)))); have n1_ := Aside0.mk (IsS173.below (by repeat (first | (with_reducible first | exact HI0.out | apply IsS173.alloc | apply IsS173.drewN | apply IsS173.drew | apply IsS173.set_1 | apply IsS173.set_2) | exact HI0.out)) hb); have n2_ := Aside0.mk (KeepBut.trans (by repeat (first | (with_reducible first | exact HK.out | apply KeepBut.set_ | apply keep_drewN | apply keep_drew | apply keep_alloc) | exact HK.out)) (KeepBut.of_below hb g none) (.inl rfl)); have n3_ := Aside0.mk (below_step (by repeat (first | (with_reducible first | exact HB.out | apply ba_ | apply bn_ | apply bd_ | refine below_set ?_ (IsS173.ge HI0.out)) | exact HB.out)) hb); clear HI0; clear HK; clear HB; have HO1650 := n0_; have HI0 := n1_; have HK := n2_; have HB := n3_; clear n0_ n1_ n2_ n3_; clear hb ho4; obtain ⟨Ao5, co5, eo5⟩ := Kd.R_slice HO1650.out; subst eo5) | ((with_reducible refine gate_callee (f := 174) rfl ?_); refine goesL_ (some 5) rfl rfl Try.func174 (by kernel_rfl) rfl #[.pointer (some ⟨g, 0, none⟩), .slice Ao5 y1648.length co5] rfl (by (try simp only [mp_]); first | done | rfl | (simp only [List.length_drop, List.length_take]; rfl)) ?_; (with_reducible refine (spec_l1Str.calls g s0_0 s0_1 s0_2 _ _ y1648 t1651 t1652 t1653 w0 _ ?side1 ?side2 ?side3 ?side4 ?side5 A2.out).mono ?_); (case side1 => repeat (first | (with_reducible first | exact HI0.out | apply IsS173.alloc | apply IsS173.drewN | apply IsS173.drew | apply IsS173.set_1 | apply IsS173.set_2) | exact HI0.out)); (case side2 => repeat (first | (with_reducible first | exact HB.out | apply ba_ | apply bn_ | apply bd_ | refine below_set ?_ (IsS173.ge HI0.out)) | exact HB.out)); (case side3 => repeat (first | exact (Kd.R_reads' HO1650.out).2.2 | (with_reducible first | refine ca_ ?_ _ | refine cn_ ?_ _ | refine cd_ ?_))); (case side4 => exact (Kd.R_reads' HO1650.out).2.1); (case side5 => exact far_slice (IsS173.own_ne HI0.out HO1650.out (by decide))); rintro e w6 ⟨rfl, hi, hb, hk⟩; refine ⟨_, rfl, ?_⟩; have n0_ := Aside0.mk (Kd.R_mono (Kd.R_keep (IsS173.apart (show IsS173 w0 _ g s0_0 s0_1 s0_2 from by repeat (first | (with_reducible first | exact HI0.out | apply IsS173.alloc | apply IsS173.drewN | apply IsS173.drew | apply IsS173.set_1 | apply IsS173.set_2) | exact HI0.out)) (rp_ HO1650.out) (by decide)) hk (fun _ h => h.2)) (fun _ h => h.1)); have n1_ := Aside0.mk (KeepBut.trans (by repeat (first | (with_reducible first | exact HK.out | apply KeepBut.set_ | apply keep_drewN | apply keep_drew | apply keep_alloc) | exact HK.out)) hk (.inl rfl)); have n2_ := Aside0.mk (hb); have n3_ := Aside0.mk (hi); clear HO1650; clear HK; clear HB; clear HI0; have HO1650 := n0_; have HK := n1_; have HB := n2_; have HI0 := n3_; clear n0_ n1_ n2_ n3_; (try clear hb); (try clear hb2); (try clear hk); (try clear hi)))
 go_ret
 exact ⟨by first | rfl | (simp [errW_none, errW_some] <;> rfl) | (simp [*, errW_none, errW_some] <;> rfl), by repeat (first | (with_reducible first | exact HI0.out | apply IsS173.alloc | apply IsS173.drewN | apply IsS173.drew | apply IsS173.set_1 | apply IsS173.set_2) | exact HI0.out), by repeat (first | (with_reducible first | exact HB.out | apply ba_ | apply bn_ | apply bd_ | refine below_set ?_ (IsS173.ge HI0.out)) | exact HB.out), by repeat (first | (with_reducible first | exact HK.out | apply KeepBut.set_ | apply keep_drewN | apply keep_drew | apply keep_alloc) | exact HK.out)⟩
def spec_l1AnyName.f (s0_0 : List Int) (s0_1 : Int) (s0_2 : Int) : Option (ByteArray × Int × Int) := (spec_l1Once.f s0_0 s0_1 s0_2 2).bind fun bt1654 => (if bt1654.1 = true then ((spec_l1Names.f s0_0 bt1654.2.1 bt1654.2.2).bind fun bt1657 => (some (bt1657.1, bt1657.2.1, bt1657.2.2))) else ((spec_l1Str.f s0_0 bt1654.2.1 bt1654.2.2 (([(⟨#[]⟩ : ByteArray), (⟨#[65]⟩ : ByteArray), (⟨#[110, 105, 110, 101, 99, 104, 97, 114, 115]⟩ : ByteArray), (⟨#[101, 105, 103, 104, 116, 97, 98, 99]⟩ : ByteArray), (⟨#[97, 32, 98]⟩ : ByteArray), (⟨#[97, 49]⟩ : ByteArray)] : List ByteArray))).bind fun bt1663 => (some (bt1663.1, bt1663.2.1, bt1663.2.2))))
theorem spec_l1AnyName.calls (g : Nat) (s0_0 : List Int) (s0_1 : Int) (s0_2 : Int) (r1 : ByteArray) (r2 : Int) (r3 : Int) (w0 w : World) (hI : IsS173 w0 w g s0_0 s0_1 s0_2) (hB : Below w0.heap.size w0 w) (h : spec_l1AnyName.f s0_0 s0_1 s0_2 = some (r1, r2, r3)) :
  Calls Try.prog 175 #[.pointer (some ⟨g, 0, none⟩)] w fun e w' => e = .returned (.string r1) ∧ IsS173 w0 w' g s0_0 r2 r3 ∧ Below w0.heap.size w0 w' ∧ KeepBut w w' g none := by
 have HI0 := Aside0.mk hI
 have HK := Aside0.mk (KeepBut.refl w g none)
 have HL := Aside0.mk hB.size
 clear hI
 have HW0 := Aside0.mk hB.size
 have HB := Aside0.mk hB
 clear hB
 have H : ((spec_l1Once.f s0_0 s0_1 s0_2 2).bind fun bt1654 => (if bt1654.1 = true then ((spec_l1Names.f s0_0 bt1654.2.1 bt1654.2.2).bind fun bt1657 => (some (bt1657.1, bt1657.2.1, bt1657.2.2))) else ((spec_l1Str.f s0_0 bt1654.2.1 bt1654.2.2 (([(⟨#[]⟩ : ByteArray), (⟨#[65]⟩ : ByteArray), (⟨#[110, 105, 110, 101, 99, 104, 97, 114, 115]⟩ : ByteArray), (⟨#[101, 105, 103, 104, 116, 97, 98, 99]⟩ : ByteArray), (⟨#[97, 32, 98]⟩ : ByteArray), (⟨#[97, 49]⟩ : ByteArray)] : List ByteArray))).bind fun bt1663 => (some (bt1663.1, bt1663.2.1, bt1663.2.2))))) = some (r1, r2, r3) := h
 clear h
 replace H := Option.bind_eq_some_iff.mp H
 obtain ⟨⟨t1654, t1655, t1656⟩, A20, H⟩ := H
 have A2 := Aside0.mk A20
 clear A20
 by_cases c3 : t1654 = true
 ·
  subst c3
  rw [if_pos rfl] at H
  replace H := Option.bind_eq_some_iff.mp H
  obtain ⟨⟨t1657, t1658, t1659⟩, A40, H⟩ := H
  have A4 := Aside0.mk A40
  clear A40
  simp only [Option.some.injEq, Prod.mk.injEq] at H
  obtain ⟨rfl, rfl, rfl⟩ := H
  go_enter Try.func175, Try.ntmps175
  go_wp2_with (first | ((with_reducible refine gate_callee (f := 136) rfl ?_); refine goesL_ (some 4) rfl rfl Try.func136 (by kernel_rfl) rfl #[.pointer (some ⟨g, 0, none⟩), .int .i64 2] rfl (by (try simp only [mp_]); first | done | rfl | (simp only [List.length_drop, List.length_take]; rfl)) ?_; (with_reducible refine (spec_l1Once.calls g s0_0 s0_1 s0_2 2 true t1655 t1656 w0 _ ?side1 ?side2 A2.out).mono ?_); (case side1 => repeat (first | (with_reducible first | exact HI0.out | apply IsS173.alloc | apply IsS173.drewN | apply IsS173.drew | apply IsS173.set_1 | apply IsS173.set_2) | exact HI0.out)); (case side2 => repeat (first | (with_reducible first | exact HB.out | apply ba_ | apply bn_ | apply bd_ | refine below_set ?_ (IsS173.ge HI0.out)) | exact HB.out)); rintro e w5 ⟨rfl, hi, hb, hk⟩; refine ⟨_, rfl, ?_⟩; have n0_ := Aside0.mk (KeepBut.trans (by repeat (first | (with_reducible first | exact HK.out | apply KeepBut.set_ | apply keep_drewN | apply keep_drew | apply keep_alloc) | exact HK.out)) hk (.inl rfl)); have n1_ := Aside0.mk (hb); have n2_ := Aside0.mk (hi); clear HK; clear HB; clear HI0; have HK := n0_; have HB := n1_; have HI0 := n2_; clear n0_ n1_ n2_; (try clear hb); (try clear hb2); (try clear hk); (try clear hi)) | ((with_reducible refine gate_callee (f := 177) rfl ?_); refine goesL_ (some 6) rfl rfl Try.func177 (by kernel_rfl) rfl #[.pointer (some ⟨g, 0, none⟩)] rfl (by (try simp only [mp_]); first | done | rfl | (simp only [List.length_drop, List.length_take]; rfl)) ?_; (with_reducible refine (spec_l1Names.calls g s0_0 t1655 t1656 t1657 t1658 t1659 w0 _ ?side1 ?side2 A4.out).mono ?_); (case side1 => repeat (first | (with_reducible first | exact HI0.out | apply IsS173.alloc | apply IsS173.drewN | apply IsS173.drew | apply IsS173.set_1 | apply IsS173.set_2) | exact HI0.out)); (case side2 => repeat (first | (with_reducible first | exact HB.out | apply ba_ | apply bn_ | apply bd_ | refine below_set ?_ (IsS173.ge HI0.out)) | exact HB.out)); rintro e w6 ⟨rfl, hi, hb, hk⟩; refine ⟨_, rfl, ?_⟩; have n0_ := Aside0.mk (KeepBut.trans (by repeat (first | (with_reducible first | exact HK.out | apply KeepBut.set_ | apply keep_drewN | apply keep_drew | apply keep_alloc) | exact HK.out)) hk (.inl rfl)); have n1_ := Aside0.mk (hb); have n2_ := Aside0.mk (hi); clear HK; clear HB; clear HI0; have HK := n0_; have HB := n1_; have HI0 := n2_; clear n0_ n1_ n2_; (try clear hb); (try clear hb2); (try clear hk); (try clear hi)))
  go_ret
  exact ⟨by first | rfl | (simp [errW_none, errW_some] <;> rfl) | (simp [*, errW_none, errW_some] <;> rfl), by repeat (first | (with_reducible first | exact HI0.out | apply IsS173.alloc | apply IsS173.drewN | apply IsS173.drew | apply IsS173.set_1 | apply IsS173.set_2) | exact HI0.out), by repeat (first | (with_reducible first | exact HB.out | apply ba_ | apply bn_ | apply bd_ | refine below_set ?_ (IsS173.ge HI0.out)) | exact HB.out), by repeat (first | (with_reducible first | exact HK.out | apply KeepBut.set_ | apply keep_drewN | apply keep_drew | apply keep_alloc) | exact HK.out)⟩
 replace c3 := Bool.eq_false_iff.mpr c3
 subst c3
 rw [if_neg (show ¬ (false = true) by decide)] at H
 obtain ⟨y1660, hy1660⟩ : ∃ y_ : List ByteArray, y_ = (([(⟨#[]⟩ : ByteArray), (⟨#[65]⟩ : ByteArray), (⟨#[110, 105, 110, 101, 99, 104, 97, 114, 115]⟩ : ByteArray), (⟨#[101, 105, 103, 104, 116, 97, 98, 99]⟩ : ByteArray), (⟨#[97, 32, 98]⟩ : ByteArray), (⟨#[97, 49]⟩ : ByteArray)] : List ByteArray)) := ⟨_, rfl⟩
 replace H : ((spec_l1Str.f s0_0 t1655 t1656 y1660).bind fun bt1663 => (some (bt1663.1, bt1663.2.1, bt1663.2.2))) = some (r1, r2, r3) := by first | (rw [hy1660]; with_reducible exact H) | (have H2_ := (Option.bind_some _ _).symm.trans H; rw [hy1660]; with_reducible exact H2_) | (have H2_ := (Option.bind_some _ _).symm.trans H; with_reducible exact H2_) | with_reducible exact H | (rw [hy1660]; exact H) | exact H
 have Ny1660 := Aside0.mk hy1660
 clear hy1660
 replace H := Option.bind_eq_some_iff.mp H
 obtain ⟨⟨t1663, t1664, t1665⟩, A70, H⟩ := H
 have A7 := Aside0.mk A70
 clear A70
 simp only [Option.some.injEq, Prod.mk.injEq] at H
 obtain ⟨rfl, rfl, rfl⟩ := H
 go_enter Try.func175, Try.ntmps175
 go_wp2_with (first | ((with_reducible refine gate_callee (f := 136) rfl ?_); refine goesL_ (some 4) rfl rfl Try.func136 (by kernel_rfl) rfl #[.pointer (some ⟨g, 0, none⟩), .int .i64 2] rfl (by (try simp only [mp_]); first | done | rfl | (simp only [List.length_drop, List.length_take]; rfl)) ?_; (with_reducible refine (spec_l1Once.calls g s0_0 s0_1 s0_2 2 false t1655 t1656 w0 _ ?side1 ?side2 A2.out).mono ?_); (case side1 => repeat (first | (with_reducible first | exact HI0.out | apply IsS173.alloc | apply IsS173.drewN | apply IsS173.drew | apply IsS173.set_1 | apply IsS173.set_2) | exact HI0.out)); (case side2 => repeat (first | (with_reducible first | exact HB.out | apply ba_ | apply bn_ | apply bd_ | refine below_set ?_ (IsS173.ge HI0.out)) | exact HB.out)); rintro e w8 ⟨rfl, hi, hb, hk⟩; refine ⟨_, rfl, ?_⟩; have n0_ := Aside0.mk (KeepBut.trans (by repeat (first | (with_reducible first | exact HK.out | apply KeepBut.set_ | apply keep_drewN | apply keep_drew | apply keep_alloc) | exact HK.out)) hk (.inl rfl)); have n1_ := Aside0.mk (hb); have n2_ := Aside0.mk (hi); clear HK; clear HB; clear HI0; have HK := n0_; have HB := n1_; have HI0 := n2_; clear n0_ n1_ n2_; (try clear hb); (try clear hb2); (try clear hk); (try clear hi)) | ((with_reducible refine gate_dst (N := 8) rfl ?_); refine Kd.R_lit Kd.string _ 9 ?hg (N := 8) ?hd (xs := ([(⟨#[]⟩ : ByteArray), (⟨#[65]⟩ : ByteArray), (⟨#[110, 105, 110, 101, 99, 104, 97, 114, 115]⟩ : ByteArray), (⟨#[101, 105, 103, 104, 116, 97, 98, 99]⟩ : ByteArray), (⟨#[97, 32, 98]⟩ : ByteArray), (⟨#[97, 49]⟩ : ByteArray)] : List ByteArray)) (inner := [.string (⟨#[]⟩ : ByteArray), .string (⟨#[65]⟩ : ByteArray), .string (⟨#[110, 105, 110, 101, 99, 104, 97, 114, 115]⟩ : ByteArray), .string (⟨#[101, 105, 103, 104, 116, 97, 98, 99]⟩ : ByteArray), .string (⟨#[97, 32, 98]⟩ : ByteArray), .string (⟨#[97, 49]⟩ : ByteArray)]) (ok := fun _ => True) (okp := fun _ => True) ?hr ?hp (fun _ hk => hk) trivial (Below.refl _ _) (Nat.le_refl _) (by simp) ?_; (case hd => rfl); (case hg => rfl); (case hr => first | (go_simp; done) | (go_simp; rfl)); (case hp => exact (Reps.one (show Kd.M Kd.string _ _ _ (⟨#[]⟩ : ByteArray) [.string (⟨#[]⟩ : ByteArray)] from rfl) (Reps.one (show Kd.M Kd.string _ _ _ (⟨#[65]⟩ : ByteArray) [.string (⟨#[65]⟩ : ByteArray)] from rfl) (Reps.one (show Kd.M Kd.string _ _ _ (⟨#[110, 105, 110, 101, 99, 104, 97, 114, 115]⟩ : ByteArray) [.string (⟨#[110, 105, 110, 101, 99, 104, 97, 114, 115]⟩ : ByteArray)] from rfl) (Reps.one (show Kd.M Kd.string _ _ _ (⟨#[101, 105, 103, 104, 116, 97, 98, 99]⟩ : ByteArray) [.string (⟨#[101, 105, 103, 104, 116, 97, 98, 99]⟩ : ByteArray)] from rfl) (Reps.one (show Kd.M Kd.string _ _ _ (⟨#[97, 32, 98]⟩ : ByteArray) [.string (⟨#[97, 32, 98]⟩ : ByteArray)] from rfl) (Reps.one (show Kd.M Kd.string _ _ _ (⟨#[97, 49]⟩ : ByteArray) [.string (⟨#[97, 49]⟩ : ByteArray)] from rfl) (Reps.none _ _)))))))); intro v1661 w9 ho10 hb hg_ hnew_; clear hg_ hnew_; (first | rw [← Ny1660.out] at ho10 | (simp only [Int.reduceToNat] at ho10; rw [← Ny1660.out] at ho10)); have n0_ := Aside0.mk (Kd.R_lower ho10 (keep_size (w := w) (g := g) (row := none) (by repeat (first | (with_reducible first | exact HK.out | apply KeepBut.set_ | apply keep_drewN | apply keep_drew | apply keep_alloc) | exact HK.out)))); have n1_ := Aside0.mk (IsS173.below (by repeat (first | (with_reducible first | exact HI0.out | apply IsS173.alloc | apply IsS173.drewN | apply IsS173.drew | apply IsS173.set_1 | apply IsS173.set_2) | exact HI0.out)) hb); have n2_ := Aside0.mk (KeepBut.trans (by repeat (first | (with_reducible first | exact HK.out | apply KeepBut.set_ | apply keep_drewN | apply keep_drew | apply keep_alloc) | exact HK.out)) (KeepBut.of_below hb g none) (.inl rfl)); have n3_ := Aside0.mk (below_step (by repeat (first | (with_reducible first | exact HB.out | apply ba_ | apply bn_ | apply bd_ | refine below_set ?_ (IsS173.ge HI0.out)) | exact HB.out)) hb); clear HI0; clear HK; clear HB; have HO1662 := n0_; have HI0 := n1_; have HK := n2_; have HB := n3_; clear n0_ n1_ n2_ n3_; clear hb ho10; obtain ⟨Ao11, co11, eo11⟩ := Kd.R_slice HO1662.out; subst eo11) | ((with_reducible refine gate_callee (f := 174) rfl ?_); refine goesL_ (some 9) rfl rfl Try.func174 (by kernel_rfl) rfl #[.pointer (some ⟨g, 0, none⟩), .slice Ao11 y1660.length co11] rfl (by (try simp only [mp_]); first | done | rfl | (simp only [List.length_drop, List.length_take]; rfl)) ?_; (with_reducible refine (spec_l1Str.calls g s0_0 t1655 t1656 _ _ y1660 t1663 t1664 t1665 w0 _ ?side1 ?side2 ?side3 ?side4 ?side5 A7.out).mono ?_); (case side1 => repeat (first | (with_reducible first | exact HI0.out | apply IsS173.alloc | apply IsS173.drewN | apply IsS173.drew | apply IsS173.set_1 | apply IsS173.set_2) | exact HI0.out)); (case side2 => repeat (first | (with_reducible first | exact HB.out | apply ba_ | apply bn_ | apply bd_ | refine below_set ?_ (IsS173.ge HI0.out)) | exact HB.out)); (case side3 => repeat (first | exact (Kd.R_reads' HO1662.out).2.2 | (with_reducible first | refine ca_ ?_ _ | refine cn_ ?_ _ | refine cd_ ?_))); (case side4 => exact (Kd.R_reads' HO1662.out).2.1); (case side5 => exact far_slice (IsS173.own_ne HI0.out HO1662.out (by decide))); rintro e w12 ⟨rfl, hi, hb, hk⟩; refine ⟨_, rfl, ?_⟩; have n0_ := Aside0.mk (Kd.R_mono (Kd.R_keep (IsS173.apart (show IsS173 w0 _ g s0_0 t1655 t1656 from by repeat (first | (with_reducible first | exact HI0.out | apply IsS173.alloc | apply IsS173.drewN | apply IsS173.drew | apply IsS173.set_1 | apply IsS173.set_2) | exact HI0.out)) (rp_ HO1662.out) (by decide)) hk (fun _ h => h.2)) (fun _ h => h.1)); have n1_ := Aside0.mk (KeepBut.trans (by repeat (first | (with_reducible first | exact HK.out | apply KeepBut.set_ | apply keep_drewN | apply keep_drew | apply keep_alloc) | exact HK.out)) hk (.inl rfl)); have n2_ := Aside0.mk (hb); have n3_ := Aside0.mk (hi); clear HO1662; clear HK; clear HB; clear HI0; have HO1662 := n0_; have HK := n1_; have HB := n2_; have HI0 := n3_; clear n0_ n1_ n2_ n3_; (try clear hb); (try clear hb2); (try clear hk); (try clear hi)))
 go_ret
 exact ⟨by first | rfl | (simp [errW_none, errW_some] <;> rfl) | (simp [*, errW_none, errW_some] <;> rfl), by repeat (first | (with_reducible first | exact HI0.out | apply IsS173.alloc | apply IsS173.drewN | apply IsS173.drew | apply IsS173.set_1 | apply IsS173.set_2) | exact HI0.out), by repeat (first | (with_reducible first | exact HB.out | apply ba_ | apply bn_ | apply bd_ | refine below_set ?_ (IsS173.ge HI0.out)) | exact HB.out), by repeat (first | (with_reducible first | exact HK.out | apply KeepBut.set_ | apply keep_drewN | apply keep_drew | apply keep_alloc) | exact HK.out)⟩
def spec_l2Any.f (k : Nat) (s0_0 : List Int) (s0_1 : Int) (s0_2 : Int) : Option ((List (S164)) × Int × Int) := (spec_l2Draw.f k s0_0 s0_1 s0_2).bind fun bt1666 => ((spec_l1Below.f s0_0 bt1666.2.1 bt1666.2.2 10).bind fun bt1671 => (if bt1671.1 = 0 then ((spec_l1AnyName.f s0_0 bt1671.2.1 bt1671.2.2).bind fun bt1674 => ((spec_l1AnyPlain.f s0_0 bt1674.2.1 bt1674.2.2).bind fun bt1677 => (if bt1666.1.length < 4398046511104 then (some ((bt1666.1 ++ [(⟨bt1674.1, bt1677.1⟩ : S164)]), bt1677.2.1, bt1677.2.2)) else (none)))) else (if bt1671.1 = 1 then ((some (([(⟨(⟨#[122, 122]⟩ : ByteArray), (⟨#[49]⟩ : ByteArray)⟩ : S164)] : List (S164)) : List (S164))).bind fun y1683 => (if y1683.length + bt1666.1.length < 4398046511104 then (some ((y1683 ++ bt1666.1), bt1671.2.1, bt1671.2.2)) else (none))) else (if bt1671.1 = 2 then (if 0 < (bt1666.1.length : Int) then (if bt1666.1.length < 4398046511104 then (some ((bt1666.1 ++ [(⟨(rd_T164 bt1666.1 0).f0, (rd_T164 bt1666.1 0).f1⟩ : S164)]), bt1671.2.1, bt1671.2.2)) else (none)) else (none)) else (if bt1671.1 = 3 then ((some (([(⟨(⟨#[122, 117]⟩ : ByteArray), (⟨#[]⟩ : ByteArray)⟩ : S164), (⟨(⟨#[122, 118]⟩ : ByteArray), (⟨#[]⟩ : ByteArray)⟩ : S164), (⟨(⟨#[122, 119]⟩ : ByteArray), (⟨#[]⟩ : ByteArray)⟩ : S164), (⟨(⟨#[122, 120]⟩ : ByteArray), (⟨#[]⟩ : ByteArray)⟩ : S164)] : List (S164)) : List (S164))).bind fun y1693 => (if bt1666.1.length + y1693.length < 4398046511104 then (some ((bt1666.1 ++ y1693), bt1671.2.1, bt1671.2.2)) else (none))) else (if bt1671.1 = 4 then ((spec_l1AnyPlain.f s0_0 bt1671.2.1 bt1671.2.2).bind fun bt1699 => (if 0 < (bt1666.1.length : Int) then (some ((bt1666.1.set (0 : Int).toNat (⟨(rd_T164 bt1666.1 0).f0, bt1699.1⟩ : S164)), bt1699.2.1, bt1699.2.2)) else (none))) else (if bt1671.1 = 5 then (some ((([] : List (S164))), bt1671.2.1, bt1671.2.2)) else (some (bt1666.1, bt1671.2.1, bt1671.2.2)))))))))
theorem spec_l2Any.mono : ∀ a0 a1 a2 k, LeO (spec_l2Any.f k a0 a1 a2) (spec_l2Any.f (k + 1) a0 a1 a2) := by
 intro a0 a1 a2 k
 unfold spec_l2Any.f
 repeat' first
   | (with_reducible exact spec_l2Draw.mono _ _ _ _)
   | (with_reducible exact LeO.refl _)
   | (with_reducible exact LeO.none _)
   | (with_reducible refine LeO.ite ?_ ?_)
   | (with_reducible refine LeO.bind ?_ (fun _ => ?_))
   | exact spec_l2Draw.mono _ _ _ _
theorem spec_l2Any.calls (k : Nat) (g : Nat) (s0_0 : List Int) (s0_1 : Int) (s0_2 : Int) (r1 : List (S164)) (r2 : Int) (r3 : Int) (w0 w : World) (hI : IsS173 w0 w g s0_0 s0_1 s0_2) (hB : Below w0.heap.size w0 w) (h : spec_l2Any.f k s0_0 s0_1 s0_2 = some (r1, r2, r3)) :
  Calls Try.prog 171 #[.pointer (some ⟨g, 0, none⟩)] w fun e w' => ∃ v0_ : Value, e = .returned (v0_) ∧ Kd.R k164 164 w' w.heap.size (fun _ => True) v0_ r1 ∧ IsS173 w0 w' g s0_0 r2 r3 ∧ Below w0.heap.size w0 w' ∧ KeepBut w w' g none := by
 have hu164 := Try.underlying164
 have HI0 := Aside0.mk hI
 have HK := Aside0.mk (KeepBut.refl w g none)
 have HL := Aside0.mk hB.size
 clear hI
 have HW0 := Aside0.mk hB.size
 have HB := Aside0.mk hB
 clear hB
 have H : ((spec_l2Draw.f k s0_0 s0_1 s0_2).bind fun bt1666 => ((spec_l1Below.f s0_0 bt1666.2.1 bt1666.2.2 10).bind fun bt1671 => (if bt1671.1 = 0 then ((spec_l1AnyName.f s0_0 bt1671.2.1 bt1671.2.2).bind fun bt1674 => ((spec_l1AnyPlain.f s0_0 bt1674.2.1 bt1674.2.2).bind fun bt1677 => (if bt1666.1.length < 4398046511104 then (some ((bt1666.1 ++ [(⟨bt1674.1, bt1677.1⟩ : S164)]), bt1677.2.1, bt1677.2.2)) else (none)))) else (if bt1671.1 = 1 then ((some (([(⟨(⟨#[122, 122]⟩ : ByteArray), (⟨#[49]⟩ : ByteArray)⟩ : S164)] : List (S164)) : List (S164))).bind fun y1683 => (if y1683.length + bt1666.1.length < 4398046511104 then (some ((y1683 ++ bt1666.1), bt1671.2.1, bt1671.2.2)) else (none))) else (if bt1671.1 = 2 then (if 0 < (bt1666.1.length : Int) then (if bt1666.1.length < 4398046511104 then (some ((bt1666.1 ++ [(⟨(rd_T164 bt1666.1 0).f0, (rd_T164 bt1666.1 0).f1⟩ : S164)]), bt1671.2.1, bt1671.2.2)) else (none)) else (none)) else (if bt1671.1 = 3 then ((some (([(⟨(⟨#[122, 117]⟩ : ByteArray), (⟨#[]⟩ : ByteArray)⟩ : S164), (⟨(⟨#[122, 118]⟩ : ByteArray), (⟨#[]⟩ : ByteArray)⟩ : S164), (⟨(⟨#[122, 119]⟩ : ByteArray), (⟨#[]⟩ : ByteArray)⟩ : S164), (⟨(⟨#[122, 120]⟩ : ByteArray), (⟨#[]⟩ : ByteArray)⟩ : S164)] : List (S164)) : List (S164))).bind fun y1693 => (if bt1666.1.length + y1693.length < 4398046511104 then (some ((bt1666.1 ++ y1693), bt1671.2.1, bt1671.2.2)) else (none))) else (if bt1671.1 = 4 then ((spec_l1AnyPlain.f s0_0 bt1671.2.1 bt1671.2.2).bind fun bt1699 => (if 0 < (bt1666.1.length : Int) then (some ((bt1666.1.set (0 : Int).toNat (⟨(rd_T164 bt1666.1 0).f0, bt1699.1⟩ : S164)), bt1699.2.1, bt1699.2.2)) else (none))) else (if bt1671.1 = 5 then (some ((([] : List (S164))), bt1671.2.1, bt1671.2.2)) else (some (bt1666.1, bt1671.2.1, bt1671.2.2)))))))))) = some (r1, r2, r3) := h
 clear h
 replace H := Option.bind_eq_some_iff.mp H
 obtain ⟨⟨t1666, t1669, t1670⟩, A20, H⟩ := H
 have A2 := Aside0.mk A20
 clear A20
 replace H := Option.bind_eq_some_iff.mp H
 obtain ⟨⟨t1671, t1672, t1673⟩, A30, H⟩ := H
 have A3 := Aside0.mk A30
 clear A30
 by_cases c4 : t1671 = 0
 ·
  rw [if_pos c4] at H
  have c4b0 : (t1671 == 0) = true := beq_iff_eq.mpr c4
  have c4b1 : (t1671 != 0) = false := bne_eq_false_iff_eq.mpr c4
  clear c4
  replace H := Option.bind_eq_some_iff.mp H
  obtain ⟨⟨t1674, t1675, t1676⟩, A50, H⟩ := H
  have A5 := Aside0.mk A50
  clear A50
  replace H := Option.bind_eq_some_iff.mp H
  obtain ⟨⟨t1677, t1678, t1679⟩, A60, H⟩ := H
  have A6 := Aside0.mk A60
  clear A60
  by_cases c7 : t1666.length < 4398046511104
  ·
   rw [if_pos c7] at H
   have LMc7 := Aside0.mk c7
   clear c7
   obtain ⟨y1680, hy1680⟩ : ∃ y_ : List (S164), y_ = (t1666 ++ [(⟨t1674, t1677⟩ : S164)]) := ⟨_, rfl⟩
   replace H : (some (y1680, t1678, t1679)) = some (r1, r2, r3) := by first | (rw [hy1680]; with_reducible exact H) | (have H2_ := (Option.bind_some _ _).symm.trans H; rw [hy1680]; with_reducible exact H2_) | (have H2_ := (Option.bind_some _ _).symm.trans H; with_reducible exact H2_) | with_reducible exact H | (rw [hy1680]; exact H) | exact H
   have Ny1680 := Aside0.mk hy1680
   clear hy1680
   simp only [Option.some.injEq, Prod.mk.injEq] at H
   obtain ⟨rfl, rfl, rfl⟩ := H
   go_enter Try.func171, Try.ntmps171
   go_wp2_with (first | ((with_reducible refine gate_callee (f := 160) rfl ?_); refine goesL_ (some 5) rfl rfl Try.func160 (by kernel_rfl) rfl #[.pointer (some ⟨g, 0, none⟩)] rfl (by (try simp only [mp_]); first | done | rfl | (simp only [List.length_drop, List.length_take]; rfl)) ?_; (with_reducible refine (spec_l2Draw.calls k g s0_0 s0_1 s0_2 t1666 t1669 t1670 w0 _ ?side1 ?side2 A2.out).mono ?_); (case side1 => repeat (first | (with_reducible first | exact HI0.out | apply IsS173.alloc | apply IsS173.drewN | apply IsS173.drew | apply IsS173.set_1 | apply IsS173.set_2) | exact HI0.out)); (case side2 => repeat (first | (with_reducible first | exact HB.out | apply ba_ | apply bn_ | apply bd_ | refine below_set ?_ (IsS173.ge HI0.out)) | exact HB.out)); rintro e w8 ⟨v1667, rfl, ho0, hi, hb, hk⟩; refine ⟨_, rfl, ?_⟩; have n0_ := Aside0.mk (Kd.R_lower ho0 (keep_size (w := w) (g := g) (row := none) (by repeat (first | (with_reducible first | exact HK.out | apply KeepBut.set_ | apply keep_drewN | apply keep_drew | apply keep_alloc) | exact HK.out)))); have n1_ := Aside0.mk (KeepBut.trans (by repeat (first | (with_reducible first | exact HK.out | apply KeepBut.set_ | apply keep_drewN | apply keep_drew | apply keep_alloc) | exact HK.out)) hk (.inl rfl)); have n2_ := Aside0.mk (hb); have n3_ := Aside0.mk (hi); clear HK; clear HB; clear HI0; have HO1668 := n0_; have HK := n1_; have HB := n2_; have HI0 := n3_; clear n0_ n1_ n2_ n3_; (try clear hb); (try clear hb2); (try clear hk); (try clear hi); (try clear ho0)) | ((with_reducible refine gate_callee (f := 137) rfl ?_); refine goesL_ (some 7) rfl rfl Try.func137 (by kernel_rfl) rfl #[.pointer (some ⟨g, 0, none⟩), .int .i64 10] rfl (by (try simp only [mp_]); first | done | rfl | (simp only [List.length_drop, List.length_take]; rfl)) ?_; (with_reducible refine (spec_l1Below.calls g s0_0 t1669 t1670 10 t1671 t1672 t1673 w0 _ ?side1 ?side2 A3.out).mono ?_); (case side1 => repeat (first | (with_reducible first | exact HI0.out | apply IsS173.alloc | apply IsS173.drewN | apply IsS173.drew | apply IsS173.set_1 | apply IsS173.set_2) | exact HI0.out)); (case side2 => repeat (first | (with_reducible first | exact HB.out | apply ba_ | apply bn_ | apply bd_ | refine below_set ?_ (IsS173.ge HI0.out)) | exact HB.out)); rintro e w9 ⟨rfl, hi, hb, hk⟩; refine ⟨_, rfl, ?_⟩; have n0_ := Aside0.mk (Kd.R_mono (Kd.R_keep (IsS173.apart (show IsS173 w0 _ g s0_0 t1669 t1670 from by repeat (first | (with_reducible first | exact HI0.out | apply IsS173.alloc | apply IsS173.drewN | apply IsS173.drew | apply IsS173.set_1 | apply IsS173.set_2) | exact HI0.out)) (rp_ HO1668.out) (by decide)) hk (fun _ h => h.2)) (fun _ h => h.1)); have n1_ := Aside0.mk (KeepBut.trans (by repeat (first | (with_reducible first | exact HK.out | apply KeepBut.set_ | apply keep_drewN | apply keep_drew | apply keep_alloc) | exact HK.out)) hk (.inl rfl)); have n2_ := Aside0.mk (hb); have n3_ := Aside0.mk (hi); clear HO1668; clear HK; clear HB; clear HI0; have HO1668 := n0_; have HK := n1_; have HB := n2_; have HI0 := n3_; clear n0_ n1_ n2_ n3_; (try clear hb); (try clear hb2); (try clear hk); (try clear hi)) | ((with_reducible refine gate_callee (f := 175) rfl ?_); refine goesL_ (some 12) rfl rfl Try.func175 (by kernel_rfl) rfl #[.pointer (some ⟨g, 0, none⟩)] rfl (by (try simp only [mp_]); first | done | rfl | (simp only [List.length_drop, List.length_take]; rfl)) ?_; (with_reducible refine (spec_l1AnyName.calls g s0_0 t1672 t1673 t1674 t1675 t1676 w0 _ ?side1 ?side2 A5.out).mono ?_); (case side1 => repeat (first | (with_reducible first | exact HI0.out | apply IsS173.alloc | apply IsS173.drewN | apply IsS173.drew | apply IsS173.set_1 | apply IsS173.set_2) | exact HI0.out)); (case side2 => repeat (first | (with_reducible first | exact HB.out | apply ba_ | apply bn_ | apply bd_ | refine below_set ?_ (IsS173.ge HI0.out)) | exact HB.out)); rintro e w10 ⟨rfl, hi, hb, hk⟩; refine ⟨_, rfl, ?_⟩; have n0_ := Aside0.mk (Kd.R_mono (Kd.R_keep (IsS173.apart (show IsS173 w0 _ g s0_0 t1672 t1673 from by repeat (first | (with_reducible first | exact HI0.out | apply IsS173.alloc | apply IsS173.drewN | apply IsS173.drew | apply IsS173.set_1 | apply IsS173.set_2) | exact HI0.out)) (rp_ HO1668.out) (by decide)) hk (fun _ h => h.2)) (fun _ h => h.1)); have n1_ := Aside0.mk (KeepBut.trans (by repeat (first | (with_reducible first | exact HK.out | apply KeepBut.set_ | apply keep_drewN | apply keep_drew | apply keep_alloc) | exact HK.out)) hk (.inl rfl)); have n2_ := Aside0.mk (hb); have n3_ := Aside0.mk (hi); clear HO1668; clear HK; clear HB; clear HI0; have HO1668 := n0_; have HK := n1_; have HB := n2_; have HI0 := n3_; clear n0_ n1_ n2_ n3_; (try clear hb); (try clear hb2); (try clear hk); (try clear hi)) | ((with_reducible refine gate_callee (f := 173) rfl ?_); refine goesL_ (some 14) rfl rfl Try.func173 (by kernel_rfl) rfl #[.pointer (some ⟨g, 0, none⟩)] rfl (by (try simp only [mp_]); first | done | rfl | (simp only [List.length_drop, List.length_take]; rfl)) ?_; (with_reducible refine (spec_l1AnyPlain.calls g s0_0 t1675 t1676 t1677 t1678 t1679 w0 _ ?side1 ?side2 A6.out).mono ?_); (case side1 => repeat (first | (with_reducible first | exact HI0.out | apply IsS173.alloc | apply IsS173.drewN | apply IsS173.drew | apply IsS173.set_1 | apply IsS173.set_2) | exact HI0.out)); (case side2 => repeat (first | (with_reducible first | exact HB.out | apply ba_ | apply bn_ | apply bd_ | refine below_set ?_ (IsS173.ge HI0.out)) | exact HB.out)); rintro e w11 ⟨rfl, hi, hb, hk⟩; refine ⟨_, rfl, ?_⟩; have n0_ := Aside0.mk (Kd.R_mono (Kd.R_keep (IsS173.apart (show IsS173 w0 _ g s0_0 t1675 t1676 from by repeat (first | (with_reducible first | exact HI0.out | apply IsS173.alloc | apply IsS173.drewN | apply IsS173.drew | apply IsS173.set_1 | apply IsS173.set_2) | exact HI0.out)) (rp_ HO1668.out) (by decide)) hk (fun _ h => h.2)) (fun _ h => h.1)); have n1_ := Aside0.mk (KeepBut.trans (by repeat (first | (with_reducible first | exact HK.out | apply KeepBut.set_ | apply keep_drewN | apply keep_drew | apply keep_alloc) | exact HK.out)) hk (.inl rfl)); have n2_ := Aside0.mk (hb); have n3_ := Aside0.mk (hi); clear HO1668; clear HK; clear HB; clear HI0; have HO1668 := n0_; have HK := n1_; have HB := n2_; have HI0 := n3_; clear n0_ n1_ n2_ n3_; (try clear hb); (try clear hb2); (try clear hk); (try clear hi)) | ((with_reducible refine gate_builtin (b := .append) (xs := #[.tmp 10, .tmp 16]) rfl ?_); at_builtin; refine Kd.R_append k164 w.heap.size rfl (.tmp 10) (.tmp 16) 42 164 (.agg #[(.string ⟨#[]⟩), (.string ⟨#[]⟩)]) 32 rfl Try.underlying42 info164 rfl (by decide) (by omega) v1667 t1666 (⟨t1674, t1677⟩ : S164) [.string t1674, .string t1677] (fun _ => True) (fun _ => False) rfl rfl ?aP (fun _ hk => hk.elim) ?aF ?aO (Below.refl _ _) ?aS ?aL ?_; (case aP => exact k164_mkM _ _ _ (⟨t1674, t1677⟩ : S164)); (case aF => exact (fun _ _ => trivial)); (case aO => exact (rp_ HO1668.out)); (case aS => exact (keep_size (w := w) (g := g) (row := none) (by repeat (first | (with_reducible first | exact HK.out | apply KeepBut.set_ | apply keep_drewN | apply keep_drew | apply keep_alloc) | exact HK.out)))); (case aL => have := LMc7.out; omega); intro v1681 w12 ho hb hg hat; rw [← Ny1680.out] at ho; have n0_ := Aside0.mk (IsS173.grown (by repeat (first | (with_reducible first | exact HI0.out | apply IsS173.alloc | apply IsS173.drewN | apply IsS173.drew | apply IsS173.set_1 | apply IsS173.set_2) | exact HI0.out)) hg (IsS173.own_ne HI0.out HO1668.out (by decide))); have n1_ := Aside0.mk (below_weaken (by repeat (first | (with_reducible first | exact HB.out | apply ba_ | apply bn_ | apply bd_ | refine below_set ?_ (IsS173.ge HI0.out)) | exact HB.out)) HL.out hb); have n2_ := Aside0.mk (KeepBut.trans (by repeat (first | (with_reducible first | exact HK.out | apply KeepBut.set_ | apply keep_drewN | apply keep_drew | apply keep_alloc) | exact HK.out)) (KeepBut.of_grown hg g) (Kd.R_base2 HO1668.out)); have n3_ := Aside0.mk (ho); clear HI0; clear HB; clear HK; clear HO1668; have HI0 := n0_; have HB := n1_; have HK := n2_; have HO1682 := n3_; clear n0_ n1_ n2_ n3_; clear ho hb hg hat))
   go_ret
   exact ⟨_, by first | rfl | (simp [errW_none, errW_some] <;> rfl) | (simp [*, errW_none, errW_some] <;> rfl), by (with_reducible repeat (first | apply Kd.R_alloc | apply Kd.R_drewN | apply Kd.R_drew)); exact HO1682.out, by repeat (first | (with_reducible first | exact HI0.out | apply IsS173.alloc | apply IsS173.drewN | apply IsS173.drew | apply IsS173.set_1 | apply IsS173.set_2) | exact HI0.out), by repeat (first | (with_reducible first | exact HB.out | apply ba_ | apply bn_ | apply bd_ | refine below_set ?_ (IsS173.ge HI0.out)) | exact HB.out), by repeat (first | (with_reducible first | exact HK.out | apply KeepBut.set_ | apply keep_drewN | apply keep_drew | apply keep_alloc) | exact HK.out)⟩
  rw [if_neg c7] at H
  exact absurd H (by simp)
 rw [if_neg c4] at H
 have c4b0 : (t1671 == 0) = false := beq_eq_false_iff_ne.mpr c4
 have c4b1 : (t1671 != 0) = true := bne_iff_ne.mpr c4
 by_cases c13 : t1671 = 1
 ·
  rw [if_pos c13] at H
  have c13b0 : (t1671 == 1) = true := beq_iff_eq.mpr c13
  have c13b1 : (t1671 != 1) = false := bne_eq_false_iff_eq.mpr c13
  clear c13
  obtain ⟨y1683, hy1683⟩ : ∃ y_ : List (S164), y_ = (([(⟨(⟨#[122, 122]⟩ : ByteArray), (⟨#[49]⟩ : ByteArray)⟩ : S164)] : List (S164))) := ⟨_, rfl⟩
  replace H : (if y1683.length + t1666.length < 4398046511104 then (some ((y1683 ++ t1666), t1672, t1673)) else (none)) = some (r1, r2, r3) := by first | (rw [hy1683]; with_reducible exact H) | (have H2_ := (Option.bind_some _ _).symm.trans H; rw [hy1683]; with_reducible exact H2_) | (have H2_ := (Option.bind_some _ _).symm.trans H; with_reducible exact H2_) | with_reducible exact H | (rw [hy1683]; exact H) | exact H
  have Ny1683 := Aside0.mk hy1683
  clear hy1683
  by_cases c14 : y1683.length + t1666.length < 4398046511104
  ·
   rw [if_pos c14] at H
   have LMc14 := Aside0.mk c14
   clear c14
   obtain ⟨y1686, hy1686⟩ : ∃ y_ : List (S164), y_ = (y1683 ++ t1666) := ⟨_, rfl⟩
   replace H : (some (y1686, t1672, t1673)) = some (r1, r2, r3) := by first | (rw [hy1686]; with_reducible exact H) | (have H2_ := (Option.bind_some _ _).symm.trans H; rw [hy1686]; with_reducible exact H2_) | (have H2_ := (Option.bind_some _ _).symm.trans H; with_reducible exact H2_) | with_reducible exact H | (rw [hy1686]; exact H) | exact H
   have Ny1686 := Aside0.mk hy1686
   clear hy1686
   simp only [Option.some.injEq, Prod.mk.injEq] at H
   obtain ⟨rfl, rfl, rfl⟩ := H
   go_enter Try.func171, Try.ntmps171
   go_wp2_with (first | ((with_reducible refine gate_callee (f := 160) rfl ?_); refine goesL_ (some 5) rfl rfl Try.func160 (by kernel_rfl) rfl #[.pointer (some ⟨g, 0, none⟩)] rfl (by (try simp only [mp_]); first | done | rfl | (simp only [List.length_drop, List.length_take]; rfl)) ?_; (with_reducible refine (spec_l2Draw.calls k g s0_0 s0_1 s0_2 t1666 t1669 t1670 w0 _ ?side1 ?side2 A2.out).mono ?_); (case side1 => repeat (first | (with_reducible first | exact HI0.out | apply IsS173.alloc | apply IsS173.drewN | apply IsS173.drew | apply IsS173.set_1 | apply IsS173.set_2) | exact HI0.out)); (case side2 => repeat (first | (with_reducible first | exact HB.out | apply ba_ | apply bn_ | apply bd_ | refine below_set ?_ (IsS173.ge HI0.out)) | exact HB.out)); rintro e w15 ⟨v1667, rfl, ho0, hi, hb, hk⟩; refine ⟨_, rfl, ?_⟩; have n0_ := Aside0.mk (Kd.R_lower ho0 (keep_size (w := w) (g := g) (row := none) (by repeat (first | (with_reducible first | exact HK.out | apply KeepBut.set_ | apply keep_drewN | apply keep_drew | apply keep_alloc) | exact HK.out)))); have n1_ := Aside0.mk (KeepBut.trans (by repeat (first | (with_reducible first | exact HK.out | apply KeepBut.set_ | apply keep_drewN | apply keep_drew | apply keep_alloc) | exact HK.out)) hk (.inl rfl)); have n2_ := Aside0.mk (hb); have n3_ := Aside0.mk (hi); clear HK; clear HB; clear HI0; have HO1668 := n0_; have HK := n1_; have HB := n2_; have HI0 := n3_; clear n0_ n1_ n2_ n3_; (try clear hb); (try clear hb2); (try clear hk); (try clear hi); (try clear ho0)) | ((with_reducible refine gate_callee (f := 137) rfl ?_); refine goesL_ (some 7) rfl rfl Try.func137 (by kernel_rfl) rfl #[.pointer (some ⟨g, 0, none⟩), .int .i64 10] rfl (by (try simp only [mp_]); first | done | rfl | (simp only [List.length_drop, List.length_take]; rfl)) ?_; (with_reducible refine (spec_l1Below.calls g s0_0 t1669 t1670 10 t1671 t1672 t1673 w0 _ ?side1 ?side2 A3.out).mono ?_); (case side1 => repeat (first | (with_reducible first | exact HI0.out | apply IsS173.alloc | apply IsS173.drewN | apply IsS173.drew | apply IsS173.set_1 | apply IsS173.set_2) | exact HI0.out)); (case side2 => repeat (first | (with_reducible first | exact HB.out | apply ba_ | apply bn_ | apply bd_ | refine below_set ?_ (IsS173.ge HI0.out)) | exact HB.out)); rintro e w16 ⟨rfl, hi, hb, hk⟩; refine ⟨_, rfl, ?_⟩; have n0_ := Aside0.mk (Kd.R_mono (Kd.R_keep (IsS173.apart (show IsS173 w0 _ g s0_0 t1669 t1670 from by repeat (first | (with_reducible first | exact HI0.out | apply IsS173.alloc | apply IsS173.drewN | apply IsS173.drew | apply IsS173.set_1 | apply IsS173.set_2) | exact HI0.out)) (rp_ HO1668.out) (by decide)) hk (fun _ h => h.2)) (fun _ h => h.1)); have n1_ := Aside0.mk (KeepBut.trans (by repeat (first | (with_reducible first | exact HK.out | apply KeepBut.set_ | apply keep_drewN | apply keep_drew | apply keep_alloc) | exact HK.out)) hk (.inl rfl)); have n2_ := Aside0.mk (hb); have n3_ := Aside0.mk (hi); clear HO1668; clear HK; clear HB; clear HI0; have HO1668 := n0_; have HK := n1_; have HB := n2_; have HI0 := n3_; clear n0_ n1_ n2_ n3_; (try clear hb); (try clear hb2); (try clear hk); (try clear hi)) | ((with_reducible refine gate_dst (N := 21) rfl ?_); refine Kd.R_lit k164 _ 164 ?hg (N := 21) ?hd (xs := ([(⟨(⟨#[122, 122]⟩ : ByteArray), (⟨#[49]⟩ : ByteArray)⟩ : S164)] : List (S164))) (inner := [.string (⟨#[122, 122]⟩ : ByteArray), .string (⟨#[49]⟩ : ByteArray)]) (ok := fun _ => True) (okp := fun _ => True) ?hr ?hp (fun _ hk => hk) trivial (Below.refl _ _) (Nat.le_refl _) (by simp) ?_; (case hd => rfl); (case hg => rfl); (case hr => first | (go_simp; done) | (go_simp; rfl)); (case hp => exact (Reps.c2 (show Kd.M k164 _ _ _ (⟨(⟨#[122, 122]⟩ : ByteArray), (⟨#[49]⟩ : ByteArray)⟩ : S164) [.string (⟨#[122, 122]⟩ : ByteArray), .string (⟨#[49]⟩ : ByteArray)] from (k164_mkM _ _ _ (⟨(⟨#[122, 122]⟩ : ByteArray), (⟨#[49]⟩ : ByteArray)⟩ : S164) )) (Reps.none _ _))); intro v1684 w17 ho18 hb hg_ hnew_; clear hg_ hnew_; (first | rw [← Ny1683.out] at ho18 | (simp only [Int.reduceToNat] at ho18; rw [← Ny1683.out] at ho18)); have n0_ := Aside0.mk (Kd.R_elder' (rp_ HO1668.out) (Kd.R_base ho18) hb); have n1_ := Aside0.mk (Kd.R_lower (Kd.R_new' ho18 (Kd.R_lt (rp_ HO1668.out))) (keep_size (w := w) (g := g) (row := none) (by repeat (first | (with_reducible first | exact HK.out | apply KeepBut.set_ | apply keep_drewN | apply keep_drew | apply keep_alloc) | exact HK.out)))); have n2_ := Aside0.mk (IsS173.below (by repeat (first | (with_reducible first | exact HI0.out | apply IsS173.alloc | apply IsS173.drewN | apply IsS173.drew | apply IsS173.set_1 | apply IsS173.set_2) | exact HI0.out)) hb); have n3_ := Aside0.mk (KeepBut.trans (by repeat (first | (with_reducible first | exact HK.out | apply KeepBut.set_ | apply keep_drewN | apply keep_drew | apply keep_alloc) | exact HK.out)) (KeepBut.of_below hb g none) (.inl rfl)); have n4_ := Aside0.mk (below_step (by repeat (first | (with_reducible first | exact HB.out | apply ba_ | apply bn_ | apply bd_ | refine below_set ?_ (IsS173.ge HI0.out)) | exact HB.out)) hb); clear HO1668; clear HI0; clear HK; clear HB; have HO1668 := n0_; have HO1685 := n1_; have HI0 := n2_; have HK := n3_; have HB := n4_; clear n0_ n1_ n2_ n3_ n4_; clear hb ho18; obtain ⟨Ao20, co20, eo20⟩ := Kd.R_slice HO1668.out; subst eo20) | ((with_reducible refine gate_builtin (b := .append) (xs := #[.tmp 21, .tmp 22]) rfl ?_); at_builtin; refine Kd.R_append_rows k164 w.heap.size rfl (.tmp 21) (.tmp 22) 42 164 (.agg #[(.string ⟨#[]⟩), (.string ⟨#[]⟩)]) 32 rfl Try.underlying42 info164 rfl (by decide) (by omega) v1684 y1683 t1666 _ _ _ (fun k_ => some k_ ≠ (.slice Ao20 t1666.length co20 : Value).ownBlock) (fun _ => False) rfl rfl ?aO ?aR (fun _ _ h => h) (fun _ h => h.elim) ?aF (Below.refl _ _) ?aS ?aL ?_; (case aR => repeat (first | exact (Kd.R_reads' HO1668.out).2.2 | (with_reducible first | refine ca_ ?_ _ | refine cn_ ?_ _ | refine cd_ ?_))); (case aF => exact (fun k_ hk => Kd.fresh' (Kd.R_lt (rp_ HO1668.out)) k_ hk)); (case aO => exact (by (with_reducible repeat (first | apply Kd.R_alloc | apply Kd.R_drewN | apply Kd.R_drew)); exact Kd.R_mono HO1685.out (fun _ hk => hk.2))); (case aS => exact (keep_size (w := w) (g := g) (row := none) (by repeat (first | (with_reducible first | exact HK.out | apply KeepBut.set_ | apply keep_drewN | apply keep_drew | apply keep_alloc) | exact HK.out)))); (case aL => have := LMc14.out; omega); intro v1687 w19 ho hb hg hat; rw [← Ny1686.out] at ho; have n0_ := Aside0.mk (IsS173.grown (by repeat (first | (with_reducible first | exact HI0.out | apply IsS173.alloc | apply IsS173.drewN | apply IsS173.drew | apply IsS173.set_1 | apply IsS173.set_2) | exact HI0.out)) hg (IsS173.own_ne HI0.out HO1685.out (by decide))); have n1_ := Aside0.mk (Kd.R_after (ok := (fun _ => True)) (rp_ HO1668.out) hg hat); have n2_ := Aside0.mk (below_weaken (by repeat (first | (with_reducible first | exact HB.out | apply ba_ | apply bn_ | apply bd_ | refine below_set ?_ (IsS173.ge HI0.out)) | exact HB.out)) HL.out hb); have n3_ := Aside0.mk (KeepBut.trans (by repeat (first | (with_reducible first | exact HK.out | apply KeepBut.set_ | apply keep_drewN | apply keep_drew | apply keep_alloc) | exact HK.out)) (KeepBut.of_grown hg g) (Kd.R_base2 HO1685.out)); have n4_ := Aside0.mk (ho); clear HI0; clear HO1668; clear HB; clear HK; clear HO1685; have HI0 := n0_; have HO1668 := n1_; have HB := n2_; have HK := n3_; have HO1688 := n4_; clear n0_ n1_ n2_ n3_ n4_; clear ho hb hg hat))
   go_ret
   exact ⟨_, by first | rfl | (simp [errW_none, errW_some] <;> rfl) | (simp [*, errW_none, errW_some] <;> rfl), by (with_reducible repeat (first | apply Kd.R_alloc | apply Kd.R_drewN | apply Kd.R_drew)); exact Kd.R_mono HO1688.out (fun _ hk => trivial), by repeat (first | (with_reducible first | exact HI0.out | apply IsS173.alloc | apply IsS173.drewN | apply IsS173.drew | apply IsS173.set_1 | apply IsS173.set_2) | exact HI0.out), by repeat (first | (with_reducible first | exact HB.out | apply ba_ | apply bn_ | apply bd_ | refine below_set ?_ (IsS173.ge HI0.out)) | exact HB.out), by repeat (first | (with_reducible first | exact HK.out | apply KeepBut.set_ | apply keep_drewN | apply keep_drew | apply keep_alloc) | exact HK.out)⟩
  rw [if_neg c14] at H
  exact absurd H (by simp)
 rw [if_neg c13] at H
 have c13b0 : (t1671 == 1) = false := beq_eq_false_iff_ne.mpr c13
 have c13b1 : (t1671 != 1) = true := bne_iff_ne.mpr c13
 by_cases c21 : t1671 = 2
 ·
  rw [if_pos c21] at H
  have c21b0 : (t1671 == 2) = true := beq_iff_eq.mpr c21
  have c21b1 : (t1671 != 2) = false := bne_eq_false_iff_eq.mpr c21
  clear c21
  by_cases c22 : 0 < (t1666.length : Int)
  ·
   rw [if_pos c22] at H
   have c22b0 := decide_eq_true c22
   have c22b1 : decide (0 < t1666.length) = true := decide_eq_true (by omega)
   clear c22
   by_cases c23 : t1666.length < 4398046511104
   ·
    rw [if_pos c23] at H
    have LMc23 := Aside0.mk c23
    clear c23
    obtain ⟨y1690, hy1690⟩ : ∃ y_ : List (S164), y_ = (t1666 ++ [(⟨(rd_T164 t1666 0).f0, (rd_T164 t1666 0).f1⟩ : S164)]) := ⟨_, rfl⟩
    replace H : (some (y1690, t1672, t1673)) = some (r1, r2, r3) := by first | (rw [hy1690]; with_reducible exact H) | (have H2_ := (Option.bind_some _ _).symm.trans H; rw [hy1690]; with_reducible exact H2_) | (have H2_ := (Option.bind_some _ _).symm.trans H; with_reducible exact H2_) | with_reducible exact H | (rw [hy1690]; exact H) | exact H
    have Ny1690 := Aside0.mk hy1690
    clear hy1690
    simp only [Option.some.injEq, Prod.mk.injEq] at H
    obtain ⟨rfl, rfl, rfl⟩ := H
    go_enter Try.func171, Try.ntmps171
    go_wp2_with (first | ((with_reducible refine gate_callee (f := 160) rfl ?_); refine goesL_ (some 5) rfl rfl Try.func160 (by kernel_rfl) rfl #[.pointer (some ⟨g, 0, none⟩)] rfl (by (try simp only [mp_]); first | done | rfl | (simp only [List.length_drop, List.length_take]; rfl)) ?_; (with_reducible refine (spec_l2Draw.calls k g s0_0 s0_1 s0_2 t1666 t1669 t1670 w0 _ ?side1 ?side2 A2.out).mono ?_); (case side1 => repeat (first | (with_reducible first | exact HI0.out | apply IsS173.alloc | apply IsS173.drewN | apply IsS173.drew | apply IsS173.set_1 | apply IsS173.set_2) | exact HI0.out)); (case side2 => repeat (first | (with_reducible first | exact HB.out | apply ba_ | apply bn_ | apply bd_ | refine below_set ?_ (IsS173.ge HI0.out)) | exact HB.out)); rintro e w24 ⟨v1667, rfl, ho0, hi, hb, hk⟩; refine ⟨_, rfl, ?_⟩; have n0_ := Aside0.mk (Kd.R_lower ho0 (keep_size (w := w) (g := g) (row := none) (by repeat (first | (with_reducible first | exact HK.out | apply KeepBut.set_ | apply keep_drewN | apply keep_drew | apply keep_alloc) | exact HK.out)))); have n1_ := Aside0.mk (KeepBut.trans (by repeat (first | (with_reducible first | exact HK.out | apply KeepBut.set_ | apply keep_drewN | apply keep_drew | apply keep_alloc) | exact HK.out)) hk (.inl rfl)); have n2_ := Aside0.mk (hb); have n3_ := Aside0.mk (hi); clear HK; clear HB; clear HI0; have HO1668 := n0_; have HK := n1_; have HB := n2_; have HI0 := n3_; clear n0_ n1_ n2_ n3_; (try clear hb); (try clear hb2); (try clear hk); (try clear hi); (try clear ho0)) | ((with_reducible refine gate_callee (f := 137) rfl ?_); refine goesL_ (some 7) rfl rfl Try.func137 (by kernel_rfl) rfl #[.pointer (some ⟨g, 0, none⟩), .int .i64 10] rfl (by (try simp only [mp_]); first | done | rfl | (simp only [List.length_drop, List.length_take]; rfl)) ?_; (with_reducible refine (spec_l1Below.calls g s0_0 t1669 t1670 10 t1671 t1672 t1673 w0 _ ?side1 ?side2 A3.out).mono ?_); (case side1 => repeat (first | (with_reducible first | exact HI0.out | apply IsS173.alloc | apply IsS173.drewN | apply IsS173.drew | apply IsS173.set_1 | apply IsS173.set_2) | exact HI0.out)); (case side2 => repeat (first | (with_reducible first | exact HB.out | apply ba_ | apply bn_ | apply bd_ | refine below_set ?_ (IsS173.ge HI0.out)) | exact HB.out)); rintro e w25 ⟨rfl, hi, hb, hk⟩; refine ⟨_, rfl, ?_⟩; have n0_ := Aside0.mk (Kd.R_mono (Kd.R_keep (IsS173.apart (show IsS173 w0 _ g s0_0 t1669 t1670 from by repeat (first | (with_reducible first | exact HI0.out | apply IsS173.alloc | apply IsS173.drewN | apply IsS173.drew | apply IsS173.set_1 | apply IsS173.set_2) | exact HI0.out)) (rp_ HO1668.out) (by decide)) hk (fun _ h => h.2)) (fun _ h => h.1)); have n1_ := Aside0.mk (KeepBut.trans (by repeat (first | (with_reducible first | exact HK.out | apply KeepBut.set_ | apply keep_drewN | apply keep_drew | apply keep_alloc) | exact HK.out)) hk (.inl rfl)); have n2_ := Aside0.mk (hb); have n3_ := Aside0.mk (hi); clear HO1668; clear HK; clear HB; clear HI0; have HO1668 := n0_; have HK := n1_; have HB := n2_; have HI0 := n3_; clear n0_ n1_ n2_ n3_; (try clear hb); (try clear hb2); (try clear hk); (try clear hi); obtain ⟨Ao26, co26, eo26⟩ := Kd.R_slice HO1668.out; subst eo26; have p1689 : 0 ≤ (0 : Int) := (by omega); have q1689 : 0 < (t1666.length : Int) := of_decide_eq_true (by with_reducible assumption); obtain ⟨ad1689, e1689, hx1689_0, hx1689_1⟩ := at_T164 (Kd.R_reads' HO1668.out).2.2 0 p1689 q1689; cases e1689; have qi1689 : (0 < t1666.length) = True := eq_true (by omega); (try rw [show ((0 : Int)).toNat = 0 from rfl] at hx1689_0); (try rw [show 0 * 2 = 0 from rfl] at hx1689_0); (try rw [Addr.add_zero'] at hx1689_0); (try rw [show ((0 : Int)).toNat = 0 from rfl] at hx1689_1); (try rw [show 0 * 2 = 0 from rfl] at hx1689_1); (try rw [Addr.add_zero'] at hx1689_1); replace p1689 := eq_true p1689; replace q1689 := eq_true q1689) | ((with_reducible refine gate_builtin (b := .append) (xs := #[.tmp 26, .tmp 30]) rfl ?_); at_builtin; refine Kd.R_append k164 w.heap.size rfl (.tmp 26) (.tmp 30) 42 164 (.agg #[(.string ⟨#[]⟩), (.string ⟨#[]⟩)]) 32 rfl Try.underlying42 info164 rfl (by decide) (by omega) (.slice (some ad1689) t1666.length co26) t1666 (⟨(rd_T164 t1666 0).f0, (rd_T164 t1666 0).f1⟩ : S164) [.string ((rd_T164 t1666 0).f0), .string ((rd_T164 t1666 0).f1)] (fun _ => True) (fun _ => False) rfl rfl ?aP (fun _ hk => hk.elim) ?aF ?aO (Below.refl _ _) ?aS ?aL ?_; (case aP => exact k164_mkM _ _ _ (⟨(rd_T164 t1666 0).f0, (rd_T164 t1666 0).f1⟩ : S164)); (case aF => exact (fun _ _ => trivial)); (case aO => exact (rp_ HO1668.out)); (case aS => exact (keep_size (w := w) (g := g) (row := none) (by repeat (first | (with_reducible first | exact HK.out | apply KeepBut.set_ | apply keep_drewN | apply keep_drew | apply keep_alloc) | exact HK.out)))); (case aL => have := LMc23.out; omega); intro v1691 w27 ho hb hg hat; rw [← Ny1690.out] at ho; have n0_ := Aside0.mk (IsS173.grown (by repeat (first | (with_reducible first | exact HI0.out | apply IsS173.alloc | apply IsS173.drewN | apply IsS173.drew | apply IsS173.set_1 | apply IsS173.set_2) | exact HI0.out)) hg (IsS173.own_ne HI0.out HO1668.out (by decide))); have n1_ := Aside0.mk (below_weaken (by repeat (first | (with_reducible first | exact HB.out | apply ba_ | apply bn_ | apply bd_ | refine below_set ?_ (IsS173.ge HI0.out)) | exact HB.out)) HL.out hb); have n2_ := Aside0.mk (KeepBut.trans (by repeat (first | (with_reducible first | exact HK.out | apply KeepBut.set_ | apply keep_drewN | apply keep_drew | apply keep_alloc) | exact HK.out)) (KeepBut.of_grown hg g) (Kd.R_base2 HO1668.out)); have n3_ := Aside0.mk (ho); clear HI0; clear HB; clear HK; clear HO1668; have HI0 := n0_; have HB := n1_; have HK := n2_; have HO1692 := n3_; clear n0_ n1_ n2_ n3_; clear ho hb hg hat))
    go_ret
    exact ⟨_, by first | rfl | (simp [errW_none, errW_some] <;> rfl) | (simp [*, errW_none, errW_some] <;> rfl), by (with_reducible repeat (first | apply Kd.R_alloc | apply Kd.R_drewN | apply Kd.R_drew)); exact HO1692.out, by repeat (first | (with_reducible first | exact HI0.out | apply IsS173.alloc | apply IsS173.drewN | apply IsS173.drew | apply IsS173.set_1 | apply IsS173.set_2) | exact HI0.out), by repeat (first | (with_reducible first | exact HB.out | apply ba_ | apply bn_ | apply bd_ | refine below_set ?_ (IsS173.ge HI0.out)) | exact HB.out), by repeat (first | (with_reducible first | exact HK.out | apply KeepBut.set_ | apply keep_drewN | apply keep_drew | apply keep_alloc) | exact HK.out)⟩
   rw [if_neg c23] at H
   exact absurd H (by simp)
  rw [if_neg c22] at H
  exact absurd H (by simp)
 rw [if_neg c21] at H
 have c21b0 : (t1671 == 2) = false := beq_eq_false_iff_ne.mpr c21
 have c21b1 : (t1671 != 2) = true := bne_iff_ne.mpr c21
 by_cases c28 : t1671 = 3
 ·
  rw [if_pos c28] at H
  have c28b0 : (t1671 == 3) = true := beq_iff_eq.mpr c28
  have c28b1 : (t1671 != 3) = false := bne_eq_false_iff_eq.mpr c28
  clear c28
  obtain ⟨y1693, hy1693⟩ : ∃ y_ : List (S164), y_ = (([(⟨(⟨#[122, 117]⟩ : ByteArray), (⟨#[]⟩ : ByteArray)⟩ : S164), (⟨(⟨#[122, 118]⟩ : ByteArray), (⟨#[]⟩ : ByteArray)⟩ : S164), (⟨(⟨#[122, 119]⟩ : ByteArray), (⟨#[]⟩ : ByteArray)⟩ : S164), (⟨(⟨#[122, 120]⟩ : ByteArray), (⟨#[]⟩ : ByteArray)⟩ : S164)] : List (S164))) := ⟨_, rfl⟩
  replace H : (if t1666.length + y1693.length < 4398046511104 then (some ((t1666 ++ y1693), t1672, t1673)) else (none)) = some (r1, r2, r3) := by first | (rw [hy1693]; with_reducible exact H) | (have H2_ := (Option.bind_some _ _).symm.trans H; rw [hy1693]; with_reducible exact H2_) | (have H2_ := (Option.bind_some _ _).symm.trans H; with_reducible exact H2_) | with_reducible exact H | (rw [hy1693]; exact H) | exact H
  have Ny1693 := Aside0.mk hy1693
  clear hy1693
  by_cases c29 : t1666.length + y1693.length < 4398046511104
  ·
   rw [if_pos c29] at H
   have LMc29 := Aside0.mk c29
   clear c29
   obtain ⟨y1696, hy1696⟩ : ∃ y_ : List (S164), y_ = (t1666 ++ y1693) := ⟨_, rfl⟩
   replace H : (some (y1696, t1672, t1673)) = some (r1, r2, r3) := by first | (rw [hy1696]; with_reducible exact H) | (have H2_ := (Option.bind_some _ _).symm.trans H; rw [hy1696]; with_reducible exact H2_) | (have H2_ := (Option.bind_some _ _).symm.trans H; with_reducible exact H2_) | with_reducible exact H | (rw [hy1696]; exact H) | exact H
   have Ny1696 := Aside0.mk hy1696
   clear hy1696
   simp only [Option.some.injEq, Prod.mk.injEq] at H
   obtain ⟨rfl, rfl, rfl⟩ := H
   go_enter Try.func171, Try.ntmps171
   go_wp2_with (first | ((with_reducible refine gate_callee (f := 160) rfl ?_); refine goesL_ (some 5) rfl rfl Try.func160 (by kernel_rfl) rfl #[.pointer (some ⟨g, 0, none⟩)] rfl (by (try simp only [mp_]); first | done | rfl | (simp only [List.length_drop, List.length_take]; rfl)) ?_; (with_reducible refine (spec_l2Draw.calls k g s0_0 s0_1 s0_2 t1666 t1669 t1670 w0 _ ?side1 ?side2 A2.out).mono ?_); (case side1 => repeat (first | (with_reducible first | exact HI0.out | apply IsS173.alloc | apply IsS173.drewN | apply IsS173.drew | apply IsS173.set_1 | apply IsS173.set_2) | exact HI0.out)); (case side2 => repeat (first | (with_reducible first | exact HB.out | apply ba_ | apply bn_ | apply bd_ | refine below_set ?_ (IsS173.ge HI0.out)) | exact HB.out)); rintro e w30 ⟨v1667, rfl, ho0, hi, hb, hk⟩; refine ⟨_, rfl, ?_⟩; have n0_ := Aside0.mk (Kd.R_lower ho0 (keep_size (w := w) (g := g) (row := none) (by repeat (first | (with_reducible first | exact HK.out | apply KeepBut.set_ | apply keep_drewN | apply keep_drew | apply keep_alloc) | exact HK.out)))); have n1_ := Aside0.mk (KeepBut.trans (by repeat (first | (with_reducible first | exact HK.out | apply KeepBut.set_ | apply keep_drewN | apply keep_drew | apply keep_alloc) | exact HK.out)) hk (.inl rfl)); have n2_ := Aside0.mk (hb); have n3_ := Aside0.mk (hi); clear HK; clear HB; clear HI0; have HO1668 := n0_; have HK := n1_; have HB := n2_; have HI0 := n3_; clear n0_ n1_ n2_ n3_; (try clear hb); (try clear hb2); (try clear hk); (try clear hi); (try clear ho0)) | ((with_reducible refine gate_callee (f := 137) rfl ?_); refine goesL_ (some 7) rfl rfl Try.func137 (by kernel_rfl) rfl #[.pointer (some ⟨g, 0, none⟩), .int .i64 10] rfl (by (try simp only [mp_]); first | done | rfl | (simp only [List.length_drop, List.length_take]; rfl)) ?_; (with_reducible refine (spec_l1Below.calls g s0_0 t1669 t1670 10 t1671 t1672 t1673 w0 _ ?side1 ?side2 A3.out).mono ?_); (case side1 => repeat (first | (with_reducible first | exact HI0.out | apply IsS173.alloc | apply IsS173.drewN | apply IsS173.drew | apply IsS173.set_1 | apply IsS173.set_2) | exact HI0.out)); (case side2 => repeat (first | (with_reducible first | exact HB.out | apply ba_ | apply bn_ | apply bd_ | refine below_set ?_ (IsS173.ge HI0.out)) | exact HB.out)); rintro e w31 ⟨rfl, hi, hb, hk⟩; refine ⟨_, rfl, ?_⟩; have n0_ := Aside0.mk (Kd.R_mono (Kd.R_keep (IsS173.apart (show IsS173 w0 _ g s0_0 t1669 t1670 from by repeat (first | (with_reducible first | exact HI0.out | apply IsS173.alloc | apply IsS173.drewN | apply IsS173.drew | apply IsS173.set_1 | apply IsS173.set_2) | exact HI0.out)) (rp_ HO1668.out) (by decide)) hk (fun _ h => h.2)) (fun _ h => h.1)); have n1_ := Aside0.mk (KeepBut.trans (by repeat (first | (with_reducible first | exact HK.out | apply KeepBut.set_ | apply keep_drewN | apply keep_drew | apply keep_alloc) | exact HK.out)) hk (.inl rfl)); have n2_ := Aside0.mk (hb); have n3_ := Aside0.mk (hi); clear HO1668; clear HK; clear HB; clear HI0; have HO1668 := n0_; have HK := n1_; have HB := n2_; have HI0 := n3_; clear n0_ n1_ n2_ n3_; (try clear hb); (try clear hb2); (try clear hk); (try clear hi)) | ((with_reducible refine gate_dst (N := 39) rfl ?_); refine Kd.R_lit k164 _ 164 ?hg (N := 39) ?hd (xs := ([(⟨(⟨#[122, 117]⟩ : ByteArray), (⟨#[]⟩ : ByteArray)⟩ : S164), (⟨(⟨#[122, 118]⟩ : ByteArray), (⟨#[]⟩ : ByteArray)⟩ : S164), (⟨(⟨#[122, 119]⟩ : ByteArray), (⟨#[]⟩ : ByteArray)⟩ : S164), (⟨(⟨#[122, 120]⟩ : ByteArray), (⟨#[]⟩ : ByteArray)⟩ : S164)] : List (S164))) (inner := [.string (⟨#[122, 117]⟩ : ByteArray), .string (⟨#[]⟩ : ByteArray), .string (⟨#[122, 118]⟩ : ByteArray), .string (⟨#[]⟩ : ByteArray), .string (⟨#[122, 119]⟩ : ByteArray), .string (⟨#[]⟩ : ByteArray), .string (⟨#[122, 120]⟩ : ByteArray), .string (⟨#[]⟩ : ByteArray)]) (ok := fun _ => True) (okp := fun _ => True) ?hr ?hp (fun _ hk => hk) trivial (Below.refl _ _) (Nat.le_refl _) (by simp) ?_; (case hd => rfl); (case hg => rfl); (case hr => first | (go_simp; done) | (go_simp; rfl)); (case hp => exact (Reps.c2 (show Kd.M k164 _ _ _ (⟨(⟨#[122, 117]⟩ : ByteArray), (⟨#[]⟩ : ByteArray)⟩ : S164) [.string (⟨#[122, 117]⟩ : ByteArray), .string (⟨#[]⟩ : ByteArray)] from (k164_mkM _ _ _ (⟨(⟨#[122, 117]⟩ : ByteArray), (⟨#[]⟩ : ByteArray)⟩ : S164) )) (Reps.c2 (show Kd.M k164 _ _ _ (⟨(⟨#[122, 118]⟩ : ByteArray), (⟨#[]⟩ : ByteArray)⟩ : S164) [.string (⟨#[122, 118]⟩ : ByteArray), .string (⟨#[]⟩ : ByteArray)] from (k164_mkM _ _ _ (⟨(⟨#[122, 118]⟩ : ByteArray), (⟨#[]⟩ : ByteArray)⟩ : S164) )) (Reps.c2 (show Kd.M k164 _ _ _ (⟨(⟨#[122, 119]⟩ : ByteArray), (⟨#[]⟩ : ByteArray)⟩ : S164) [.string (⟨#[122, 119]⟩ : ByteArray), .string (⟨#[]⟩ : ByteArray)] from (k164_mkM _ _ _ (⟨(⟨#[122, 119]⟩ : ByteArray), (⟨#[]⟩ : ByteArray)⟩ : S164) )) (Reps.c2 (show Kd.M k164 _ _ _ (⟨(⟨#[122, 120]⟩ : ByteArray), (⟨#[]⟩ : ByteArray)⟩ : S164) [.string (⟨#[122, 120]⟩ : ByteArray), .string (⟨#[]⟩ : ByteArray)] from (k164_mkM _ _ _ (⟨(⟨#[122, 120]⟩ : ByteArray), (⟨#[]⟩ : ByteArray)⟩ : S164) )) (Reps.none _ _)))))); intro v1694 w32 ho33 hb hg_ hnew_; clear hg_ hnew_; (first | rw [← Ny1693.out] at ho33 | (simp only [Int.reduceToNat] at ho33; rw [← Ny1693.out] at ho33)); have n0_ := Aside0.mk (Kd.R_elder' (rp_ HO1668.out) (Kd.R_base ho33) hb); have n1_ := Aside0.mk (Kd.R_lower (Kd.R_new' ho33 (Kd.R_lt (rp_ HO1668.out))) (keep_size (w := w) (g := g) (row := none) (by repeat (first | (with_reducible first | exact HK.out | apply KeepBut.set_ | apply keep_drewN | apply keep_drew | apply keep_alloc) | exact HK.out)))); have n2_ := Aside0.mk (IsS173.below (by repeat (first | (with_reducible first | exact HI0.out | apply IsS173.alloc | apply IsS173.drewN | apply IsS173.drew | apply IsS173.set_1 | apply IsS173.set_2) | exact HI0.out)) hb); have n3_ := Aside0.mk (KeepBut.trans (by repeat (first | (with_reducible first | exact HK.out | apply KeepBut.set_ | apply keep_drewN | apply keep_drew | apply keep_alloc) | exact HK.out)) (KeepBut.of_below hb g none) (.inl rfl)); have n4_ := Aside0.mk (below_step (by repeat (first | (with_reducible first | exact HB.out | apply ba_ | apply bn_ | apply bd_ | refine below_set ?_ (IsS173.ge HI0.out)) | exact HB.out)) hb); clear HO1668; clear HI0; clear HK; clear HB; have HO1668 := n0_; have HO1695 := n1_; have HI0 := n2_; have HK := n3_; have HB := n4_; clear n0_ n1_ n2_ n3_ n4_; clear hb ho33; obtain ⟨Ao35, co35, eo35⟩ := Kd.R_slice HO1695.out; subst eo35) | ((with_reducible refine gate_builtin (b := .append) (xs := #[.tmp 34, .tmp 39]) rfl ?_); at_builtin; refine Kd.R_append_rows k164 w.heap.size rfl (.tmp 34) (.tmp 39) 42 164 (.agg #[(.string ⟨#[]⟩), (.string ⟨#[]⟩)]) 32 rfl Try.underlying42 info164 rfl (by decide) (by omega) v1667 t1666 y1693 _ _ _ (fun k_ => some k_ ≠ (.slice Ao35 y1693.length co35 : Value).ownBlock) (fun _ => False) rfl rfl ?aO ?aR (fun _ _ h => h) (fun _ h => h.elim) ?aF (Below.refl _ _) ?aS ?aL ?_; (case aR => repeat (first | exact (Kd.R_reads' HO1695.out).2.2 | (with_reducible first | refine ca_ ?_ _ | refine cn_ ?_ _ | refine cd_ ?_))); (case aF => exact (fun k_ hk => Kd.fresh' (Kd.R_lt (rp_ HO1695.out)) k_ hk)); (case aO => exact (by (with_reducible repeat (first | apply Kd.R_alloc | apply Kd.R_drewN | apply Kd.R_drew)); exact Kd.R_mono HO1668.out (fun _ hk => hk.2))); (case aS => exact (keep_size (w := w) (g := g) (row := none) (by repeat (first | (with_reducible first | exact HK.out | apply KeepBut.set_ | apply keep_drewN | apply keep_drew | apply keep_alloc) | exact HK.out)))); (case aL => have := LMc29.out; omega); intro v1697 w34 ho hb hg hat; rw [← Ny1696.out] at ho; have n0_ := Aside0.mk (IsS173.grown (by repeat (first | (with_reducible first | exact HI0.out | apply IsS173.alloc | apply IsS173.drewN | apply IsS173.drew | apply IsS173.set_1 | apply IsS173.set_2) | exact HI0.out)) hg (IsS173.own_ne HI0.out HO1668.out (by decide))); have n1_ := Aside0.mk (Kd.R_after (ok := (fun _ => True)) (rp_ HO1695.out) hg hat); have n2_ := Aside0.mk (below_weaken (by repeat (first | (with_reducible first | exact HB.out | apply ba_ | apply bn_ | apply bd_ | refine below_set ?_ (IsS173.ge HI0.out)) | exact HB.out)) HL.out hb); have n3_ := Aside0.mk (KeepBut.trans (by repeat (first | (with_reducible first | exact HK.out | apply KeepBut.set_ | apply keep_drewN | apply keep_drew | apply keep_alloc) | exact HK.out)) (KeepBut.of_grown hg g) (Kd.R_base2 HO1668.out)); have n4_ := Aside0.mk (ho); clear HI0; clear HO1695; clear HB; clear HK; clear HO1668; have HI0 := n0_; have HO1695 := n1_; have HB := n2_; have HK := n3_; have HO1698 := n4_; clear n0_ n1_ n2_ n3_ n4_; clear ho hb hg hat))
   go_ret
   exact ⟨_, by first | rfl | (simp [errW_none, errW_some] <;> rfl) | (simp [*, errW_none, errW_some] <;> rfl), by (with_reducible repeat (first | apply Kd.R_alloc | apply Kd.R_drewN | apply Kd.R_drew)); exact Kd.R_mono HO1698.out (fun _ hk => trivial), by repeat (first | (with_reducible first | exact HI0.out | apply IsS173.alloc | apply IsS173.drewN | apply IsS173.drew | apply IsS173.set_1 | apply IsS173.set_2) | exact HI0.out), by repeat (first | (with_reducible first | exact HB.out | apply ba_ | apply bn_ | apply bd_ | refine below_set ?_ (IsS173.ge HI0.out)) | exact HB.out), by repeat (first | (with_reducible first | exact HK.out | apply KeepBut.set_ | apply keep_drewN | apply keep_drew | apply keep_alloc) | exact HK.out)⟩
  rw [if_neg c29] at H
  exact absurd H (by simp)
 rw [if_neg c28] at H
 have c28b0 : (t1671 == 3) = false := beq_eq_false_iff_ne.mpr c28
 have c28b1 : (t1671 != 3) = true := bne_iff_ne.mpr c28
 by_cases c36 : t1671 = 4
 ·
  rw [if_pos c36] at H
  have c36b0 : (t1671 == 4) = true := beq_iff_eq.mpr c36
  have c36b1 : (t1671 != 4) = false := bne_eq_false_iff_eq.mpr c36
  clear c36
  replace H := Option.bind_eq_some_iff.mp H
  obtain ⟨⟨t1699, t1700, t1701⟩, A370, H⟩ := H
  have A37 := Aside0.mk A370
  clear A370
  by_cases c38 : 0 < (t1666.length : Int)
  ·
   rw [if_pos c38] at H
   have c38b0 := decide_eq_true c38
   have c38b1 : decide (0 < t1666.length) = true := decide_eq_true (by omega)
   clear c38
   obtain ⟨y1702, hy1702⟩ : ∃ y_ : List (S164), y_ = (t1666.set (0 : Int).toNat (⟨(rd_T164 t1666 0).f0, t1699⟩ : S164)) := ⟨_, rfl⟩
   replace H : (some (y1702, t1700, t1701)) = some (r1, r2, r3) := by first | (rw [hy1702]; with_reducible exact H) | (have H2_ := (Option.bind_some _ _).symm.trans H; rw [hy1702]; with_reducible exact H2_) | (have H2_ := (Option.bind_some _ _).symm.trans H; with_reducible exact H2_) | with_reducible exact H | (rw [hy1702]; exact H) | exact H
   have Ny1702 := Aside0.mk hy1702
   clear hy1702
   simp only [Option.some.injEq, Prod.mk.injEq] at H
   obtain ⟨rfl, rfl, rfl⟩ := H
   go_enter Try.func171, Try.ntmps171
   go_wp2_with (first | ((with_reducible refine gate_callee (f := 160) rfl ?_); refine goesL_ (some 5) rfl rfl Try.func160 (by kernel_rfl) rfl #[.pointer (some ⟨g, 0, none⟩)] rfl (by (try simp only [mp_]); first | done | rfl | (simp only [List.length_drop, List.length_take]; rfl)) ?_; (with_reducible refine (spec_l2Draw.calls k g s0_0 s0_1 s0_2 t1666 t1669 t1670 w0 _ ?side1 ?side2 A2.out).mono ?_); (case side1 => repeat (first | (with_reducible first | exact HI0.out | apply IsS173.alloc | apply IsS173.drewN | apply IsS173.drew | apply IsS173.set_1 | apply IsS173.set_2) | exact HI0.out)); (case side2 => repeat (first | (with_reducible first | exact HB.out | apply ba_ | apply bn_ | apply bd_ | refine below_set ?_ (IsS173.ge HI0.out)) | exact HB.out)); rintro e w40 ⟨v1667, rfl, ho0, hi, hb, hk⟩; refine ⟨_, rfl, ?_⟩; have n0_ := Aside0.mk (Kd.R_lower ho0 (keep_size (w := w) (g := g) (row := none) (by repeat (first | (with_reducible first | exact HK.out | apply KeepBut.set_ | apply keep_drewN | apply keep_drew | apply keep_alloc) | exact HK.out)))); have n1_ := Aside0.mk (KeepBut.trans (by repeat (first | (with_reducible first | exact HK.out | apply KeepBut.set_ | apply keep_drewN | apply keep_drew | apply keep_alloc) | exact HK.out)) hk (.inl rfl)); have n2_ := Aside0.mk (hb); have n3_ := Aside0.mk (hi); clear HK; clear HB; clear HI0; have HO1668 := n0_; have HK := n1_; have HB := n2_; have HI0 := n3_; clear n0_ n1_ n2_ n3_; (try clear hb); (try clear hb2); (try clear hk); (try clear hi); (try clear ho0)) | ((with_reducible refine gate_callee (f := 137) rfl ?_); refine goesL_ (some 7) rfl rfl Try.func137 (by kernel_rfl) rfl #[.pointer (some ⟨g, 0, none⟩), .int .i64 10] rfl (by (try simp only [mp_]); first | done | rfl | (simp only [List.length_drop, List.length_take]; rfl)) ?_; (with_reducible refine (spec_l1Below.calls g s0_0 t1669 t1670 10 t1671 t1672 t1673 w0 _ ?side1 ?side2 A3.out).mono ?_); (case side1 => repeat (first | (with_reducible first | exact HI0.out | apply IsS173.alloc | apply IsS173.drewN | apply IsS173.drew | apply IsS173.set_1 | apply IsS173.set_2) | exact HI0.out)); (case side2 => repeat (first | (with_reducible first | exact HB.out | apply ba_ | apply bn_ | apply bd_ | refine below_set ?_ (IsS173.ge HI0.out)) | exact HB.out)); rintro e w41 ⟨rfl, hi, hb, hk⟩; refine ⟨_, rfl, ?_⟩; have n0_ := Aside0.mk (Kd.R_mono (Kd.R_keep (IsS173.apart (show IsS173 w0 _ g s0_0 t1669 t1670 from by repeat (first | (with_reducible first | exact HI0.out | apply IsS173.alloc | apply IsS173.drewN | apply IsS173.drew | apply IsS173.set_1 | apply IsS173.set_2) | exact HI0.out)) (rp_ HO1668.out) (by decide)) hk (fun _ h => h.2)) (fun _ h => h.1)); have n1_ := Aside0.mk (KeepBut.trans (by repeat (first | (with_reducible first | exact HK.out | apply KeepBut.set_ | apply keep_drewN | apply keep_drew | apply keep_alloc) | exact HK.out)) hk (.inl rfl)); have n2_ := Aside0.mk (hb); have n3_ := Aside0.mk (hi); clear HO1668; clear HK; clear HB; clear HI0; have HO1668 := n0_; have HK := n1_; have HB := n2_; have HI0 := n3_; clear n0_ n1_ n2_ n3_; (try clear hb); (try clear hb2); (try clear hk); (try clear hi)) | ((with_reducible refine gate_callee (f := 173) rfl ?_); refine goesL_ (some 45) rfl rfl Try.func173 (by kernel_rfl) rfl #[.pointer (some ⟨g, 0, none⟩)] rfl (by (try simp only [mp_]); first | done | rfl | (simp only [List.length_drop, List.length_take]; rfl)) ?_; (with_reducible refine (spec_l1AnyPlain.calls g s0_0 t1672 t1673 t1699 t1700 t1701 w0 _ ?side1 ?side2 A37.out).mono ?_); (case side1 => repeat (first | (with_reducible first | exact HI0.out | apply IsS173.alloc | apply IsS173.drewN | apply IsS173.drew | apply IsS173.set_1 | apply IsS173.set_2) | exact HI0.out)); (case side2 => repeat (first | (with_reducible first | exact HB.out | apply ba_ | apply bn_ | apply bd_ | refine below_set ?_ (IsS173.ge HI0.out)) | exact HB.out)); rintro e w42 ⟨rfl, hi, hb, hk⟩; refine ⟨_, rfl, ?_⟩; have n0_ := Aside0.mk (Kd.R_mono (Kd.R_keep (IsS173.apart (show IsS173 w0 _ g s0_0 t1672 t1673 from by repeat (first | (with_reducible first | exact HI0.out | apply IsS173.alloc | apply IsS173.drewN | apply IsS173.drew | apply IsS173.set_1 | apply IsS173.set_2) | exact HI0.out)) (rp_ HO1668.out) (by decide)) hk (fun _ h => h.2)) (fun _ h => h.1)); have n1_ := Aside0.mk (KeepBut.trans (by repeat (first | (with_reducible first | exact HK.out | apply KeepBut.set_ | apply keep_drewN | apply keep_drew | apply keep_alloc) | exact HK.out)) hk (.inl rfl)); have n2_ := Aside0.mk (hb); have n3_ := Aside0.mk (hi); clear HO1668; clear HK; clear HB; clear HI0; have HO1668 := n0_; have HK := n1_; have HB := n2_; have HI0 := n3_; clear n0_ n1_ n2_ n3_; (try clear hb); (try clear hb2); (try clear hk); (try clear hi); have p39 : 0 ≤ (0 : Int) := (by omega); have q39 : (0 : Int) < ((t1666.length : Int) : Int) := of_decide_eq_true (by with_reducible assumption); have qi39 : (0 < t1666.length) = True := eq_true (by omega); obtain ⟨go39, co39, eo39, gb39, gl39, cl39, HG39⟩ := Kd.R_form HO1668.out (by omega); (first | cases eo39 | (injection eo39 with ea_ en_ ec_; (first | subst ea_ | (injection ea_ with ea_; subst ea_)); subst ec_; clear en_)); have GB39 := Aside0.mk gb39; have GG39 := Aside0.mk HG39; clear gb39 gl39 HG39; obtain ⟨ce39, hcl39, hM39, hcc39, hfr39⟩ := Kd.R_elem HO1668.out z164 (0 : Int) p39 q39; obtain rfl := k164_openM hM39; have hx39_0 : w42.cell? ⟨go39, (0 : Int).toNat * 2, none⟩ = some (.string ((rd_T164 t1666 0).f0)) := hcc39 0 _ rfl; have hx39_1 : w42.cell? ⟨go39, (0 : Int).toNat * 2 + 1, none⟩ = some (.string ((rd_T164 t1666 0).f1)) := hcc39 1 _ rfl; have hf39_0 : w42.frozen? ⟨go39, (0 : Int).toNat * 2, none⟩ = false := hfr39 0; have hf39_1 : w42.frozen? ⟨go39, (0 : Int).toNat * 2 + 1, none⟩ = false := hfr39 1; clear hcl39 hcc39 hfr39 hM39; (try rw [show ((0 : Int)).toNat = 0 from rfl] at hx39_0); (try simp only [Nat.reduceMul, Nat.zero_mul, Nat.zero_add, Nat.reduceAdd] at hx39_0); (try rw [show ((0 : Int)).toNat = 0 from rfl] at hf39_0); (try simp only [Nat.reduceMul, Nat.zero_mul, Nat.zero_add, Nat.reduceAdd] at hf39_0); (try rw [show ((0 : Int)).toNat = 0 from rfl] at hx39_1); (try simp only [Nat.reduceMul, Nat.zero_mul, Nat.zero_add, Nat.reduceAdd] at hx39_1); (try rw [show ((0 : Int)).toNat = 0 from rfl] at hf39_1); (try simp only [Nat.reduceMul, Nat.zero_mul, Nat.zero_add, Nat.reduceAdd] at hf39_1); replace p39 := eq_true p39; replace q39 := eq_true q39; have HX43 := Aside0.mk (show Kd.R k164 164 w42 w.heap.size (fun _ => True) (.slice (some ⟨go39, 0, none⟩) t1666.length co39) t1666 from (rp_ HO1668.out)); obtain ⟨ce43, hcl43, hM43, hcc43, hfr43⟩ := Kd.R_elem HX43.out z164 (0 : Int) (by omega) (by have h_ : (0 : Int) < ((t1666.length : Int) : Int) := of_decide_eq_true (by with_reducible assumption); first | exact h_ | (have e_ := (Kd.R_reads' HO1668.out).1; omega) | simpa using h_); obtain rfl := k164_openM hM43; have HP43 := Kd.R_seg HX43.out (0 : Int) (by omega) (by have h_ : (0 : Int) < ((t1666.length : Int) : Int) := of_decide_eq_true (by with_reducible assumption); first | exact h_ | (have e_ := (Kd.R_reads' HO1668.out).1; omega) | simpa using h_) (seg := [.string t1699]) (j := 1) hcl43 hcc43 (show 2 ≤ 2 from by decide) (x' := (⟨(rd_T164 t1666 0).f0, t1699⟩ : S164)) (k164_mkM _ _ _ (⟨(rd_T164 t1666 0).f0, t1699⟩ : S164) ) (fun _ hk => hk); have hx43_1 := hcc43 1 _ rfl; (try simp only [show (k164).sz = 2 from rfl, Nat.mul_one, Nat.add_zero] at hx43_1); (try rw [show ((0 : Int)).toNat = 0 from rfl] at hx43_1); (try simp only [Nat.reduceMul, Nat.zero_mul, Nat.zero_add, Nat.reduceAdd] at hx43_1); have hf43_1 := hfr43 1; (try simp only [show (k164).sz = 2 from rfl, Nat.mul_one, Nat.add_zero] at hf43_1); (try rw [show ((0 : Int)).toNat = 0 from rfl] at hf43_1); (try simp only [Nat.reduceMul, Nat.zero_mul, Nat.zero_add, Nat.reduceAdd] at hf43_1); clear hcl43 hcc43 hfr43 hM43) | ((with_reducible refine gate_store (t := 9) (p := 47) rfl ?_); refine store_event (t := 9) (p := 47) (v := ?vo_w44) (w1 := (w42.setCell ⟨go39, 1, none⟩ (.string t1699))) ?hg ?ho ?hn ?hr ?_; (case ho => rfl); (case hg => rfl); (case hn => rfl); (case hr => first | (go_simp; done) | (go_simp; rfl)); intro w44 hw; have hg : w42.grownBy w44 (some go39) := (by rw [hw]; exact HP43.2); have hp_ : Kd.R k164 164 w44 w.heap.size (fun _ => True) (.slice (some ⟨go39, 0, none⟩) t1666.length co39) y1702 := (by rw [hw, Ny1702.out]; exact HP43.1); clear HP43; have n0_ := Aside0.mk (IsS173.grown (by repeat (first | (with_reducible first | exact HI0.out | apply IsS173.alloc | apply IsS173.drewN | apply IsS173.drew | apply IsS173.set_1 | apply IsS173.set_2) | exact HI0.out)) hg (IsS173.own_ne HI0.out HO1668.out (by decide))); have n1_ := Aside0.mk (hp_); have n2_ := Aside0.mk ((by rw [hw]; exact below_set (HB.out) (Nat.le_trans HL.out GB39.out) : Below w0.heap.size w0 w44)); have n3_ := Aside0.mk (KeepBut.trans (by repeat (first | (with_reducible first | exact HK.out | apply KeepBut.set_ | apply keep_drewN | apply keep_drew | apply keep_alloc) | exact HK.out)) (KeepBut.of_grown hg g) (Kd.R_base2 HO1668.out)); clear HI0; clear HO1668; clear HB; clear HK; have HI0 := n0_; have HO1668 := n1_; have HB := n2_; have HK := n3_; clear n0_ n1_ n2_ n3_; clear hg hw hp_))
   go_ret
   exact ⟨_, by first | rfl | (simp [errW_none, errW_some] <;> rfl) | (simp [*, errW_none, errW_some] <;> rfl), by (with_reducible repeat (first | apply Kd.R_alloc | apply Kd.R_drewN | apply Kd.R_drew)); exact HO1668.out, by repeat (first | (with_reducible first | exact HI0.out | apply IsS173.alloc | apply IsS173.drewN | apply IsS173.drew | apply IsS173.set_1 | apply IsS173.set_2) | exact HI0.out), by repeat (first | (with_reducible first | exact HB.out | apply ba_ | apply bn_ | apply bd_ | refine below_set ?_ (IsS173.ge HI0.out)) | exact HB.out), by repeat (first | (with_reducible first | exact HK.out | apply KeepBut.set_ | apply keep_drewN | apply keep_drew | apply keep_alloc) | exact HK.out)⟩
  rw [if_neg c38] at H
  exact absurd H (by simp)
 rw [if_neg c36] at H
 have c36b0 : (t1671 == 4) = false := beq_eq_false_iff_ne.mpr c36
 have c36b1 : (t1671 != 4) = true := bne_iff_ne.mpr c36
 by_cases c45 : t1671 = 5
 ·
  rw [if_pos c45] at H
  have c45b0 : (t1671 == 5) = true := beq_iff_eq.mpr c45
  have c45b1 : (t1671 != 5) = false := bne_eq_false_iff_eq.mpr c45
  clear c45
  obtain ⟨y1703, hy1703⟩ : ∃ y_ : List (S164), y_ = (([] : List (S164))) := ⟨_, rfl⟩
  replace H : (some (y1703, t1672, t1673)) = some (r1, r2, r3) := by first | (rw [hy1703]; with_reducible exact H) | (have H2_ := (Option.bind_some _ _).symm.trans H; rw [hy1703]; with_reducible exact H2_) | (have H2_ := (Option.bind_some _ _).symm.trans H; with_reducible exact H2_) | with_reducible exact H | (rw [hy1703]; exact H) | exact H
  have Ny1703 := Aside0.mk hy1703
  clear hy1703
  simp only [Option.some.injEq, Prod.mk.injEq] at H
  obtain ⟨rfl, rfl, rfl⟩ := H
  go_enter Try.func171, Try.ntmps171
  go_wp2_with (first | ((with_reducible refine gate_callee (f := 160) rfl ?_); refine goesL_ (some 5) rfl rfl Try.func160 (by kernel_rfl) rfl #[.pointer (some ⟨g, 0, none⟩)] rfl (by (try simp only [mp_]); first | done | rfl | (simp only [List.length_drop, List.length_take]; rfl)) ?_; (with_reducible refine (spec_l2Draw.calls k g s0_0 s0_1 s0_2 t1666 t1669 t1670 w0 _ ?side1 ?side2 A2.out).mono ?_); (case side1 => repeat (first | (with_reducible first | exact HI0.out | apply IsS173.alloc | apply IsS173.drewN | apply IsS173.drew | apply IsS173.set_1 | apply IsS173.set_2) | exact HI0.out)); (case side2 => repeat (first | (with_reducible first | exact HB.out | apply ba_ | apply bn_ | apply bd_ | refine below_set ?_ (IsS173.ge HI0.out)) | exact HB.out)); rintro e w46 ⟨v1667, rfl, ho0, hi, hb, hk⟩; refine ⟨_, rfl, ?_⟩; have n0_ := Aside0.mk (Kd.R_lower ho0 (keep_size (w := w) (g := g) (row := none) (by repeat (first | (with_reducible first | exact HK.out | apply KeepBut.set_ | apply keep_drewN | apply keep_drew | apply keep_alloc) | exact HK.out)))); have n1_ := Aside0.mk (KeepBut.trans (by repeat (first | (with_reducible first | exact HK.out | apply KeepBut.set_ | apply keep_drewN | apply keep_drew | apply keep_alloc) | exact HK.out)) hk (.inl rfl)); have n2_ := Aside0.mk (hb); have n3_ := Aside0.mk (hi); clear HK; clear HB; clear HI0; have HO1668 := n0_; have HK := n1_; have HB := n2_; have HI0 := n3_; clear n0_ n1_ n2_ n3_; (try clear hb); (try clear hb2); (try clear hk); (try clear hi); (try clear ho0)) | ((with_reducible refine gate_callee (f := 137) rfl ?_); refine goesL_ (some 7) rfl rfl Try.func137 (by kernel_rfl) rfl #[.pointer (some ⟨g, 0, none⟩), .int .i64 10] rfl (by (try simp only [mp_]); first | done | rfl | (simp only [List.length_drop, List.length_take]; rfl)) ?_; (with_reducible refine (spec_l1Below.calls g s0_0 t1669 t1670 10 t1671 t1672 t1673 w0 _ ?side1 ?side2 A3.out).mono ?_); (case side1 => repeat (first | (with_reducible first | exact HI0.out | apply IsS173.alloc | apply IsS173.drewN | apply IsS173.drew | apply IsS173.set_1 | apply IsS173.set_2) | exact HI0.out)); (case side2 => repeat (first | (with_reducible first | exact HB.out | apply ba_ | apply bn_ | apply bd_ | refine below_set ?_ (IsS173.ge HI0.out)) | exact HB.out)); rintro e w47 ⟨rfl, hi, hb, hk⟩; refine ⟨_, rfl, ?_⟩; have n0_ := Aside0.mk (Kd.R_mono (Kd.R_keep (IsS173.apart (show IsS173 w0 _ g s0_0 t1669 t1670 from by repeat (first | (with_reducible first | exact HI0.out | apply IsS173.alloc | apply IsS173.drewN | apply IsS173.drew | apply IsS173.set_1 | apply IsS173.set_2) | exact HI0.out)) (rp_ HO1668.out) (by decide)) hk (fun _ h => h.2)) (fun _ h => h.1)); have n1_ := Aside0.mk (KeepBut.trans (by repeat (first | (with_reducible first | exact HK.out | apply KeepBut.set_ | apply keep_drewN | apply keep_drew | apply keep_alloc) | exact HK.out)) hk (.inl rfl)); have n2_ := Aside0.mk (hb); have n3_ := Aside0.mk (hi); clear HO1668; clear HK; clear HB; clear HI0; have HO1668 := n0_; have HK := n1_; have HB := n2_; have HI0 := n3_; clear n0_ n1_ n2_ n3_; (try clear hb); (try clear hb2); (try clear hk); (try clear hi)) | ((with_reducible refine gate_dst (N := 50) rfl ?_); refine Kd.R_lit k164 _ 164 ?hg (N := 50) ?hd (xs := ([] : List (S164))) (inner := []) (ok := fun _ => True) (okp := fun _ => True) ?hr ?hp (fun _ hk => hk) trivial (Below.refl _ _) (Nat.le_refl _) (by simp) ?_; (case hd => rfl); (case hg => rfl); (case hr => first | (go_simp; done) | (go_simp; rfl)); (case hp => exact (Reps.none _ _)); intro v1704 w48 ho49 hb hg_ hnew_; clear hg_ hnew_; (first | rw [← Ny1703.out] at ho49 | (simp only [Int.reduceToNat] at ho49; rw [← Ny1703.out] at ho49)); have n0_ := Aside0.mk (Kd.R_elder' (rp_ HO1668.out) (Kd.R_base ho49) hb); have n1_ := Aside0.mk (Kd.R_lower (Kd.R_new' ho49 (Kd.R_lt (rp_ HO1668.out))) (keep_size (w := w) (g := g) (row := none) (by repeat (first | (with_reducible first | exact HK.out | apply KeepBut.set_ | apply keep_drewN | apply keep_drew | apply keep_alloc) | exact HK.out)))); have n2_ := Aside0.mk (IsS173.below (by repeat (first | (with_reducible first | exact HI0.out | apply IsS173.alloc | apply IsS173.drewN | apply IsS173.drew | apply IsS173.set_1 | apply IsS173.set_2) | exact HI0.out)) hb); have n3_ := Aside0.mk (KeepBut.trans (by repeat (first | (with_reducible first | exact HK.out | apply KeepBut.set_ | apply keep_drewN | apply keep_drew | apply keep_alloc) | exact HK.out)) (KeepBut.of_below hb g none) (.inl rfl)); have n4_ := Aside0.mk (below_step (by repeat (first | (with_reducible first | exact HB.out | apply ba_ | apply bn_ | apply bd_ | refine below_set ?_ (IsS173.ge HI0.out)) | exact HB.out)) hb); clear HO1668; clear HI0; clear HK; clear HB; have HO1668 := n0_; have HO1705 := n1_; have HI0 := n2_; have HK := n3_; have HB := n4_; clear n0_ n1_ n2_ n3_ n4_; clear hb ho49))
  go_ret
  exact ⟨_, by first | rfl | (simp [errW_none, errW_some] <;> rfl) | (simp [*, errW_none, errW_some] <;> rfl), by (with_reducible repeat (first | apply Kd.R_alloc | apply Kd.R_drewN | apply Kd.R_drew)); exact Kd.R_mono HO1705.out (fun _ hk => trivial), by repeat (first | (with_reducible first | exact HI0.out | apply IsS173.alloc | apply IsS173.drewN | apply IsS173.drew | apply IsS173.set_1 | apply IsS173.set_2) | exact HI0.out), by repeat (first | (with_reducible first | exact HB.out | apply ba_ | apply bn_ | apply bd_ | refine below_set ?_ (IsS173.ge HI0.out)) | exact HB.out), by repeat (first | (with_reducible first | exact HK.out | apply KeepBut.set_ | apply keep_drewN | apply keep_drew | apply keep_alloc) | exact HK.out)⟩
 rw [if_neg c45] at H
 have c45b0 : (t1671 == 5) = false := beq_eq_false_iff_ne.mpr c45
 have c45b1 : (t1671 != 5) = true := bne_iff_ne.mpr c45
 simp only [Option.some.injEq, Prod.mk.injEq] at H
 obtain ⟨rfl, rfl, rfl⟩ := H
 go_enter Try.func171, Try.ntmps171
 go_wp2_with (first | ((with_reducible refine gate_callee (f := 160) rfl ?_); refine goesL_ (some 5) rfl rfl Try.func160 (by kernel_rfl) rfl #[.pointer (some ⟨g, 0, none⟩)] rfl (by (try simp only [mp_]); first | done | rfl | (simp only [List.length_drop, List.length_take]; rfl)) ?_; (with_reducible refine (spec_l2Draw.calls k g s0_0 s0_1 s0_2 t1666 t1669 t1670 w0 _ ?side1 ?side2 A2.out).mono ?_); (case side1 => repeat (first | (with_reducible first | exact HI0.out | apply IsS173.alloc | apply IsS173.drewN | apply IsS173.drew | apply IsS173.set_1 | apply IsS173.set_2) | exact HI0.out)); (case side2 => repeat (first | (with_reducible first | exact HB.out | apply ba_ | apply bn_ | apply bd_ | refine below_set ?_ (IsS173.ge HI0.out)) | exact HB.out)); rintro e w50 ⟨v1667, rfl, ho0, hi, hb, hk⟩; refine ⟨_, rfl, ?_⟩; have n0_ := Aside0.mk (Kd.R_lower ho0 (keep_size (w := w) (g := g) (row := none) (by repeat (first | (with_reducible first | exact HK.out | apply KeepBut.set_ | apply keep_drewN | apply keep_drew | apply keep_alloc) | exact HK.out)))); have n1_ := Aside0.mk (KeepBut.trans (by repeat (first | (with_reducible first | exact HK.out | apply KeepBut.set_ | apply keep_drewN | apply keep_drew | apply keep_alloc) | exact HK.out)) hk (.inl rfl)); have n2_ := Aside0.mk (hb); have n3_ := Aside0.mk (hi); clear HK; clear HB; clear HI0; have HO1668 := n0_; have HK := n1_; have HB := n2_; have HI0 := n3_; clear n0_ n1_ n2_ n3_; (try clear hb); (try clear hb2); (try clear hk); (try clear hi); (try clear ho0)) | ((with_reducible refine gate_callee (f := 137) rfl ?_); refine goesL_ (some 7) rfl rfl Try.func137 (by kernel_rfl) rfl #[.pointer (some ⟨g, 0, none⟩), .int .i64 10] rfl (by (try simp only [mp_]); first | done | rfl | (simp only [List.length_drop, List.length_take]; rfl)) ?_; (with_reducible refine (spec_l1Below.calls g s0_0 t1669 t1670 10 t1671 t1672 t1673 w0 _ ?side1 ?side2 A3.out).mono ?_); (case side1 => repeat (first | (with_reducible first | exact HI0.out | apply IsS173.alloc | apply IsS173.drewN | apply IsS173.drew | apply IsS173.set_1 | apply IsS173.set_2) | exact HI0.out)); (case side2 => repeat (first | (with_reducible first | exact HB.out | apply ba_ | apply bn_ | apply bd_ | refine below_set ?_ (IsS173.ge HI0.out)) | exact HB.out)); rintro e w51 ⟨rfl, hi, hb, hk⟩; refine ⟨_, rfl, ?_⟩; have n0_ := Aside0.mk (Kd.R_mono (Kd.R_keep (IsS173.apart (show IsS173 w0 _ g s0_0 t1669 t1670 from by repeat (first | (with_reducible first | exact HI0.out | apply IsS173.alloc | apply IsS173.drewN | apply IsS173.drew | apply IsS173.set_1 | apply IsS173.set_2) | exact HI0.out)) (rp_ HO1668.out) (by decide)) hk (fun _ h => h.2)) (fun _ h => h.1)); have n1_ := Aside0.mk (KeepBut.trans (by repeat (first | (with_reducible first | exact HK.out | apply KeepBut.set_ | apply keep_drewN | apply keep_drew | apply keep_alloc) | exact HK.out)) hk (.inl rfl)); have n2_ := Aside0.mk (hb); have n3_ := Aside0.mk (hi); clear HO1668; clear HK; clear HB; clear HI0; have HO1668 := n0_; have HK := n1_; have HB := n2_; have HI0 := n3_; clear n0_ n1_ n2_ n3_; (try clear hb); (try clear hb2); (try clear hk); (try clear hi)))
 go_ret
 exact ⟨_, by first | rfl | (simp [errW_none, errW_some] <;> rfl) | (simp [*, errW_none, errW_some] <;> rfl), by (with_reducible repeat (first | apply Kd.R_alloc | apply Kd.R_drewN | apply Kd.R_drew)); exact HO1668.out, by repeat (first | (with_reducible first | exact HI0.out | apply IsS173.alloc | apply IsS173.drewN | apply IsS173.drew | apply IsS173.set_1 | apply IsS173.set_2) | exact HI0.out), by repeat (first | (with_reducible first | exact HB.out | apply ba_ | apply bn_ | apply bd_ | refine below_set ?_ (IsS173.ge HI0.out)) | exact HB.out), by repeat (first | (with_reducible first | exact HK.out | apply KeepBut.set_ | apply keep_drewN | apply keep_drew | apply keep_alloc) | exact HK.out)⟩
def spec_l1Odd.f (s0_0 : List Int) (s0_1 : Int) (s0_2 : Int) : Option (Int × Int × Int) := (spec_l1Int.f s0_0 s0_1 s0_2 (([(-1), 0, 1, 2, 255, 256, 65535, 2147483647, 2147483648, 4294967295, 4294967296, (-2147483648), 9223372036854775807, (-9223372036854775808)] : List Int))).bind fun bt1709 => (some (bt1709.1, bt1709.2.1, bt1709.2.2))
theorem spec_l1Odd.calls (g : Nat) (s0_0 : List Int) (s0_1 : Int) (s0_2 : Int) (r1 : Int) (r2 : Int) (r3 : Int) (w0 w : World) (hI : IsS173 w0 w g s0_0 s0_1 s0_2) (hB : Below w0.heap.size w0 w) (h : spec_l1Odd.f s0_0 s0_1 s0_2 = some (r1, r2, r3)) :
  Calls Try.prog 176 #[.pointer (some ⟨g, 0, none⟩)] w fun e w' => e = .returned (.int .i64 r1) ∧ IsS173 w0 w' g s0_0 r2 r3 ∧ Below w0.heap.size w0 w' ∧ KeepBut w w' g none := by
 have HI0 := Aside0.mk hI
 have HK := Aside0.mk (KeepBut.refl w g none)
 have HL := Aside0.mk hB.size
 clear hI
 have HW0 := Aside0.mk hB.size
 have HB := Aside0.mk hB
 clear hB
 have H : ((spec_l1Int.f s0_0 s0_1 s0_2 (([(-1), 0, 1, 2, 255, 256, 65535, 2147483647, 2147483648, 4294967295, 4294967296, (-2147483648), 9223372036854775807, (-9223372036854775808)] : List Int))).bind fun bt1709 => (some (bt1709.1, bt1709.2.1, bt1709.2.2))) = some (r1, r2, r3) := h
 clear h
 obtain ⟨y1706, hy1706⟩ : ∃ y_ : List Int, y_ = (([(-1), 0, 1, 2, 255, 256, 65535, 2147483647, 2147483648, 4294967295, 4294967296, (-2147483648), 9223372036854775807, (-9223372036854775808)] : List Int)) := ⟨_, rfl⟩
 replace H : ((spec_l1Int.f s0_0 s0_1 s0_2 y1706).bind fun bt1709 => (some (bt1709.1, bt1709.2.1, bt1709.2.2))) = some (r1, r2, r3) := by first | (rw [hy1706]; with_reducible exact H) | (have H2_ := (Option.bind_some _ _).symm.trans H; rw [hy1706]; with_reducible exact H2_) | (have H2_ := (Option.bind_some _ _).symm.trans H; with_reducible exact H2_) | with_reducible exact H | (rw [hy1706]; exact H) | exact H
 have Ny1706 := Aside0.mk hy1706
 clear hy1706
 replace H := Option.bind_eq_some_iff.mp H
 obtain ⟨⟨t1709, t1710, t1711⟩, A20, H⟩ := H
 have A2 := Aside0.mk A20
 clear A20
 simp only [Option.some.injEq, Prod.mk.injEq] at H
 obtain ⟨rfl, rfl, rfl⟩ := H
 go_enter Try.func176, Try.ntmps176
 go_wp2_with (first | ((with_reducible refine gate_dst (N := 4) rfl ?_); refine Kd.R_lit (Kd.int .i64) _ 3 ?hg (N := 4) ?hd (xs := ([(-1), 0, 1, 2, 255, 256, 65535, 2147483647, 2147483648, 4294967295, 4294967296, (-2147483648), 9223372036854775807, (-9223372036854775808)] : List Int)) (inner := [.int .i64 (-1), .int .i64 0, .int .i64 1, .int .i64 2, .int .i64 255, .int .i64 256, .int .i64 65535, .int .i64 2147483647, .int .i64 2147483648, .int .i64 4294967295, .int .i64 4294967296, .int .i64 (-2147483648), .int .i64 9223372036854775807, .int .i64 (-9223372036854775808)]) (ok := fun _ => True) (okp := fun _ => True) ?hr ?hp (fun _ hk => hk) trivial (Below.refl _ _) (Nat.le_refl _) (by simp) ?_; (case hd => rfl); (case hg => rfl); (case hr => first | (go_simp; done) | (go_simp; rfl)); (case hp => exact (Reps.one (show Kd.M (Kd.int .i64) _ _ _ (-1) [.int .i64 (-1)] from rfl) (Reps.one (show Kd.M (Kd.int .i64) _ _ _ 0 [.int .i64 0] from rfl) (Reps.one (show Kd.M (Kd.int .i64) _ _ _ 1 [.int .i64 1] from rfl) (Reps.one (show Kd.M (Kd.int .i64) _ _ _ 2 [.int .i64 2] from rfl) (Reps.one (show Kd.M (Kd.int .i64) _ _ _ 255 [.int .i64 255] from rfl) (Reps.one (show Kd.M (Kd.int .i64) _ _ _ 256 [.int .i64 256] from rfl) (Reps.one (show Kd.M (Kd.int .i64) _ _ _ 65535 [.int .i64 65535] from rfl) (Reps.one (show Kd.M (Kd.int .i64) _ _ _ 2147483647 [.int .i64 2147483647] from rfl) (Reps.one (show Kd.M (Kd.int .i64) _ _ _ 2147483648 [.int .i64 2147483648] from rfl) (Reps.one (show Kd.M (Kd.int .i64) _ _ _ 4294967295 [.int .i64 4294967295] from rfl) (Reps.one (show Kd.M (Kd.int .i64) _ _ _ 4294967296 [.int .i64 4294967296] from rfl) (Reps.one (show Kd.M (Kd.int .i64) _ _ _ (-2147483648) [.int .i64 (-2147483648)] from rfl) (Reps.one (show Kd.M (Kd.int .i64) _ _ _ 9223372036854775807 [.int .i64 9223372036854775807] from rfl) (Reps.one (show Kd.M (Kd.int .i64) _ _ _ (-9223372036854775808) [.int .i64 (-9223372036854775808)] from rfl) (Reps.none _ _)))))))))))))))); intro v1707 w3 ho4 hb hg_ hnew_; clear hg_ hnew_; (first | rw [← Ny1706.out] at ho4 | (simp only [Int.reduceToNat] at ho4; rw [← Ny1706.out] at ho4)); have n0_ := Aside0.mk (Kd.R_lower ho4 (keep_size (w := w) (g := g) (row := none) (by repeat (first | (with_reducible first | exact HK.out | apply KeepBut.set_ | apply keep_drewN | apply keep_drew | apply keep_alloc) | exact HK.out)))); have n1_ := Aside0.mk (IsS173.below (by repeat (first | (with_reducible first | exact HI0.out | apply IsS173.alloc | apply IsS173.drewN | apply IsS173.drew | apply IsS173.set_1 | apply IsS173.set_2) | exact HI0.out)) hb); have n2_ := Aside0.mk (KeepBut.trans (by repeat (first | (with_reducible first | exact HK.out | apply KeepBut.set_ | apply keep_drewN | apply keep_drew | apply keep_alloc) | exact HK.out)) (KeepBut.of_below hb g none) (.inl rfl)); have n3_ := Aside0.mk (below_step (by repeat (first | (with_reducible first | exact HB.out | apply ba_ | apply bn_ | apply bd_ | refine below_set ?_ (IsS173.ge HI0.out)) | exact HB.out)) hb); clear HI0; clear HK; clear HB; have HO1708 := n0_; have HI0 := n1_; have HK := n2_; have HB := n3_; clear n0_ n1_ n2_ n3_; clear hb ho4; obtain ⟨Ao5, co5, eo5⟩ := Kd.R_slice HO1708.out; subst eo5) | ((with_reducible refine gate_callee (f := 162) rfl ?_); refine goesL_ (some 5) rfl rfl Try.func162 (by kernel_rfl) rfl #[.pointer (some ⟨g, 0, none⟩), .slice Ao5 y1706.length co5] rfl (by (try simp only [mp_]); first | done | rfl | (simp only [List.length_drop, List.length_take]; rfl)) ?_; (with_reducible refine (spec_l1Int.calls g s0_0 s0_1 s0_2 _ _ y1706 t1709 t1710 t1711 w0 _ ?side1 ?side2 ?side3 ?side4 ?side5 A2.out).mono ?_); (case side1 => repeat (first | (with_reducible first | exact HI0.out | apply IsS173.alloc | apply IsS173.drewN | apply IsS173.drew | apply IsS173.set_1 | apply IsS173.set_2) | exact HI0.out)); (case side2 => repeat (first | (with_reducible first | exact HB.out | apply ba_ | apply bn_ | apply bd_ | refine below_set ?_ (IsS173.ge HI0.out)) | exact HB.out)); (case side3 => repeat (first | exact (Kd.R_reads' HO1708.out).2.2 | (with_reducible first | refine ca_ ?_ _ | refine cn_ ?_ _ | refine cd_ ?_))); (case side4 => exact (Kd.R_reads' HO1708.out).2.1); (case side5 => exact far_slice (IsS173.own_ne HI0.out HO1708.out (by decide))); rintro e w6 ⟨rfl, hi, hb, hk⟩; refine ⟨_, rfl, ?_⟩; have n0_ := Aside0.mk (Kd.R_mono (Kd.R_keep (IsS173.apart (show IsS173 w0 _ g s0_0 s0_1 s0_2 from by repeat (first | (with_reducible first | exact HI0.out | apply IsS173.alloc | apply IsS173.drewN | apply IsS173.drew | apply IsS173.set_1 | apply IsS173.set_2) | exact HI0.out)) (rp_ HO1708.out) (by decide)) hk (fun _ h => h.2)) (fun _ h => h.1)); have n1_ := Aside0.mk (KeepBut.trans (by repeat (first | (with_reducible first | exact HK.out | apply KeepBut.set_ | apply keep_drewN | apply keep_drew | apply keep_alloc) | exact HK.out)) hk (.inl rfl)); have n2_ := Aside0.mk (hb); have n3_ := Aside0.mk (hi); clear HO1708; clear HK; clear HB; clear HI0; have HO1708 := n0_; have HK := n1_; have HB := n2_; have HI0 := n3_; clear n0_ n1_ n2_ n3_; (try clear hb); (try clear hb2); (try clear hk); (try clear hi)))
 go_ret
 exact ⟨by first | rfl | (simp [errW_none, errW_some] <;> rfl) | (simp [*, errW_none, errW_some] <;> rfl), by repeat (first | (with_reducible first | exact HI0.out | apply IsS173.alloc | apply IsS173.drewN | apply IsS173.drew | apply IsS173.set_1 | apply IsS173.set_2) | exact HI0.out), by repeat (first | (with_reducible first | exact HB.out | apply ba_ | apply bn_ | apply bd_ | refine below_set ?_ (IsS173.ge HI0.out)) | exact HB.out), by repeat (first | (with_reducible first | exact HK.out | apply KeepBut.set_ | apply keep_drewN | apply keep_drew | apply keep_alloc) | exact HK.out)⟩
def spec_l1Raw.f (s0_0 : List Int) (s0_1 : Int) (s0_2 : Int) : Option (Int × Int × Int) := (spec_l1Once.f s0_0 s0_1 s0_2 2).bind fun bt1712 => (if bt1712.1 = true then ((spec_l1Odd.f s0_0 bt1712.2.1 bt1712.2.2).bind fun bt1715 => (some (bt1715.1, bt1715.2.1, bt1715.2.2))) else ((spec_l1Int.f s0_0 bt1712.2.1 bt1712.2.2 (([(-1), 0, 1, 3, 99999, 100000] : List Int))).bind fun bt1721 => (some (bt1721.1, bt1721.2.1, bt1721.2.2))))
theorem spec_l1Raw.calls (g : Nat) (s0_0 : List Int) (s0_1 : Int) (s0_2 : Int) (r1 : Int) (r2 : Int) (r3 : Int) (w0 w : World) (hI : IsS173 w0 w g s0_0 s0_1 s0_2) (hB : Below w0.heap.size w0 w) (h : spec_l1Raw.f s0_0 s0_1 s0_2 = some (r1, r2, r3)) :
  Calls Try.prog 172 #[.pointer (some ⟨g, 0, none⟩)] w fun e w' => e = .returned (.int .i64 r1) ∧ IsS173 w0 w' g s0_0 r2 r3 ∧ Below w0.heap.size w0 w' ∧ KeepBut w w' g none := by
 have HI0 := Aside0.mk hI
 have HK := Aside0.mk (KeepBut.refl w g none)
 have HL := Aside0.mk hB.size
 clear hI
 have HW0 := Aside0.mk hB.size
 have HB := Aside0.mk hB
 clear hB
 have H : ((spec_l1Once.f s0_0 s0_1 s0_2 2).bind fun bt1712 => (if bt1712.1 = true then ((spec_l1Odd.f s0_0 bt1712.2.1 bt1712.2.2).bind fun bt1715 => (some (bt1715.1, bt1715.2.1, bt1715.2.2))) else ((spec_l1Int.f s0_0 bt1712.2.1 bt1712.2.2 (([(-1), 0, 1, 3, 99999, 100000] : List Int))).bind fun bt1721 => (some (bt1721.1, bt1721.2.1, bt1721.2.2))))) = some (r1, r2, r3) := h
 clear h
 replace H := Option.bind_eq_some_iff.mp H
 obtain ⟨⟨t1712, t1713, t1714⟩, A20, H⟩ := H
 have A2 := Aside0.mk A20
 clear A20
 by_cases c3 : t1712 = true
 ·
  subst c3
  rw [if_pos rfl] at H
  replace H := Option.bind_eq_some_iff.mp H
  obtain ⟨⟨t1715, t1716, t1717⟩, A40, H⟩ := H
  have A4 := Aside0.mk A40
  clear A40
  simp only [Option.some.injEq, Prod.mk.injEq] at H
  obtain ⟨rfl, rfl, rfl⟩ := H
  go_enter Try.func172, Try.ntmps172
  go_wp2_with (first | ((with_reducible refine gate_callee (f := 136) rfl ?_); refine goesL_ (some 4) rfl rfl Try.func136 (by kernel_rfl) rfl #[.pointer (some ⟨g, 0, none⟩), .int .i64 2] rfl (by (try simp only [mp_]); first | done | rfl | (simp only [List.length_drop, List.length_take]; rfl)) ?_; (with_reducible refine (spec_l1Once.calls g s0_0 s0_1 s0_2 2 true t1713 t1714 w0 _ ?side1 ?side2 A2.out).mono ?_); (case side1 => repeat (first | (with_reducible first | exact HI0.out | apply IsS173.alloc | apply IsS173.drewN | apply IsS173.drew | apply IsS173.set_1 | apply IsS173.set_2) | exact HI0.out)); (case side2 => repeat (first | (with_reducible first | exact HB.out | apply ba_ | apply bn_ | apply bd_ | refine below_set ?_ (IsS173.ge HI0.out)) | exact HB.out)); rintro e w5 ⟨rfl, hi, hb, hk⟩; refine ⟨_, rfl, ?_⟩; have n0_ := Aside0.mk (KeepBut.trans (by repeat (first | (with_reducible first | exact HK.out | apply KeepBut.set_ | apply keep_drewN | apply keep_drew | apply keep_alloc) | exact HK.out)) hk (.inl rfl)); have n1_ := Aside0.mk (hb); have n2_ := Aside0.mk (hi); clear HK; clear HB; clear HI0; have HK := n0_; have HB := n1_; have HI0 := n2_; clear n0_ n1_ n2_; (try clear hb); (try clear hb2); (try clear hk); (try clear hi)) | ((with_reducible refine gate_callee (f := 176) rfl ?_); refine goesL_ (some 6) rfl rfl Try.func176 (by kernel_rfl) rfl #[.pointer (some ⟨g, 0, none⟩)] rfl (by (try simp only [mp_]); first | done | rfl | (simp only [List.length_drop, List.length_take]; rfl)) ?_; (with_reducible refine (spec_l1Odd.calls g s0_0 t1713 t1714 t1715 t1716 t1717 w0 _ ?side1 ?side2 A4.out).mono ?_); (case side1 => repeat (first | (with_reducible first | exact HI0.out | apply IsS173.alloc | apply IsS173.drewN | apply IsS173.drew | apply IsS173.set_1 | apply IsS173.set_2) | exact HI0.out)); (case side2 => repeat (first | (with_reducible first | exact HB.out | apply ba_ | apply bn_ | apply bd_ | refine below_set ?_ (IsS173.ge HI0.out)) | exact HB.out)); rintro e w6 ⟨rfl, hi, hb, hk⟩; refine ⟨_, rfl, ?_⟩; have n0_ := Aside0.mk (KeepBut.trans (by repeat (first | (with_reducible first | exact HK.out | apply KeepBut.set_ | apply keep_drewN | apply keep_drew | apply keep_alloc) | exact HK.out)) hk (.inl rfl)); have n1_ := Aside0.mk (hb); have n2_ := Aside0.mk (hi); clear HK; clear HB; clear HI0; have HK := n0_; have HB := n1_; have HI0 := n2_; clear n0_ n1_ n2_; (try clear hb); (try clear hb2); (try clear hk); (try clear hi)))
  go_ret
  exact ⟨by first | rfl | (simp [errW_none, errW_some] <;> rfl) | (simp [*, errW_none, errW_some] <;> rfl), by repeat (first | (with_reducible first | exact HI0.out | apply IsS173.alloc | apply IsS173.drewN | apply IsS173.drew | apply IsS173.set_1 | apply IsS173.set_2) | exact HI0.out), by repeat (first | (with_reducible first | exact HB.out | apply ba_ | apply bn_ | apply bd_ | refine below_set ?_ (IsS173.ge HI0.out)) | exact HB.out), by repeat (first | (with_reducible first | exact HK.out | apply KeepBut.set_ | apply keep_drewN | apply keep_drew | apply keep_alloc) | exact HK.out)⟩
 replace c3 := Bool.eq_false_iff.mpr c3
 subst c3
 rw [if_neg (show ¬ (false = true) by decide)] at H
 obtain ⟨y1718, hy1718⟩ : ∃ y_ : List Int, y_ = (([(-1), 0, 1, 3, 99999, 100000] : List Int)) := ⟨_, rfl⟩
 replace H : ((spec_l1Int.f s0_0 t1713 t1714 y1718).bind fun bt1721 => (some (bt1721.1, bt1721.2.1, bt1721.2.2))) = some (r1, r2, r3) := by first | (rw [hy1718]; with_reducible exact H) | (have H2_ := (Option.bind_some _ _).symm.trans H; rw [hy1718]; with_reducible exact H2_) | (have H2_ := (Option.bind_some _ _).symm.trans H; with_reducible exact H2_) | with_reducible exact H | (rw [hy1718]; exact H) | exact H
 have Ny1718 := Aside0.mk hy1718
 clear hy1718
 replace H := Option.bind_eq_some_iff.mp H
 obtain ⟨⟨t1721, t1722, t1723⟩, A70, H⟩ := H
 have A7 := Aside0.mk A70
 clear A70
 simp only [Option.some.injEq, Prod.mk.injEq] at H
 obtain ⟨rfl, rfl, rfl⟩ := H
 go_enter Try.func172, Try.ntmps172
 go_wp2_with (first | ((with_reducible refine gate_callee (f := 136) rfl ?_); refine goesL_ (some 4) rfl rfl Try.func136 (by kernel_rfl) rfl #[.pointer (some ⟨g, 0, none⟩), .int .i64 2] rfl (by (try simp only [mp_]); first | done | rfl | (simp only [List.length_drop, List.length_take]; rfl)) ?_; (with_reducible refine (spec_l1Once.calls g s0_0 s0_1 s0_2 2 false t1713 t1714 w0 _ ?side1 ?side2 A2.out).mono ?_); (case side1 => repeat (first | (with_reducible first | exact HI0.out | apply IsS173.alloc | apply IsS173.drewN | apply IsS173.drew | apply IsS173.set_1 | apply IsS173.set_2) | exact HI0.out)); (case side2 => repeat (first | (with_reducible first | exact HB.out | apply ba_ | apply bn_ | apply bd_ | refine below_set ?_ (IsS173.ge HI0.out)) | exact HB.out)); rintro e w8 ⟨rfl, hi, hb, hk⟩; refine ⟨_, rfl, ?_⟩; have n0_ := Aside0.mk (KeepBut.trans (by repeat (first | (with_reducible first | exact HK.out | apply KeepBut.set_ | apply keep_drewN | apply keep_drew | apply keep_alloc) | exact HK.out)) hk (.inl rfl)); have n1_ := Aside0.mk (hb); have n2_ := Aside0.mk (hi); clear HK; clear HB; clear HI0; have HK := n0_; have HB := n1_; have HI0 := n2_; clear n0_ n1_ n2_; (try clear hb); (try clear hb2); (try clear hk); (try clear hi)) | ((with_reducible refine gate_dst (N := 8) rfl ?_); refine Kd.R_lit (Kd.int .i64) _ 3 ?hg (N := 8) ?hd (xs := ([(-1), 0, 1, 3, 99999, 100000] : List Int)) (inner := [.int .i64 (-1), .int .i64 0, .int .i64 1, .int .i64 3, .int .i64 99999, .int .i64 100000]) (ok := fun _ => True) (okp := fun _ => True) ?hr ?hp (fun _ hk => hk) trivial (Below.refl _ _) (Nat.le_refl _) (by simp) ?_; (case hd => rfl); (case hg => rfl); (case hr => first | (go_simp; done) | (go_simp; rfl)); (case hp => exact (Reps.one (show Kd.M (Kd.int .i64) _ _ _ (-1) [.int .i64 (-1)] from rfl) (Reps.one (show Kd.M (Kd.int .i64) _ _ _ 0 [.int .i64 0] from rfl) (Reps.one (show Kd.M (Kd.int .i64) _ _ _ 1 [.int .i64 1] from rfl) (Reps.one (show Kd.M (Kd.int .i64) _ _ _ 3 [.int .i64 3] from rfl) (Reps.one (show Kd.M (Kd.int .i64) _ _ _ 99999 [.int .i64 99999] from rfl) (Reps.one (show Kd.M (Kd.int .i64) _ _ _ 100000 [.int .i64 100000] from rfl) (Reps.none _ _)))))))); intro v1719 w9 ho10 hb hg_ hnew_; clear hg_ hnew_; (first | rw [← Ny1718.out] at ho10 | (simp only [Int.reduceToNat] at ho10; rw [← Ny1718.out] at ho10)); have n0_ := Aside0.mk (Kd.R_lower ho10 (keep_size (w := w) (g := g) (row := none) (by repeat (first | (with_reducible first | exact HK.out | apply KeepBut.set_ | apply keep_drewN | apply keep_drew | apply keep_alloc) | exact HK.out)))); have n1_ := Aside0.mk (IsS173.below (by repeat (first | (with_reducible first | exact HI0.out | apply IsS173.alloc | apply IsS173.drewN | apply IsS173.drew | apply IsS173.set_1 | apply IsS173.set_2) | exact HI0.out)) hb); have n2_ := Aside0.mk (KeepBut.trans (by repeat (first | (with_reducible first | exact HK.out | apply KeepBut.set_ | apply keep_drewN | apply keep_drew | apply keep_alloc) | exact HK.out)) (KeepBut.of_below hb g none) (.inl rfl)); have n3_ := Aside0.mk (below_step (by repeat (first | (with_reducible first | exact HB.out | apply ba_ | apply bn_ | apply bd_ | refine below_set ?_ (IsS173.ge HI0.out)) | exact HB.out)) hb); clear HI0; clear HK; clear HB; have HO1720 := n0_; have HI0 := n1_; have HK := n2_; have HB := n3_; clear n0_ n1_ n2_ n3_; clear hb ho10; obtain ⟨Ao11, co11, eo11⟩ := Kd.R_slice HO1720.out; subst eo11) | ((with_reducible refine gate_callee (f := 162) rfl ?_); refine goesL_ (some 9) rfl rfl Try.func162 (by kernel_rfl) rfl #[.pointer (some ⟨g, 0, none⟩), .slice Ao11 y1718.length co11] rfl (by (try simp only [mp_]); first | done | rfl | (simp only [List.length_drop, List.length_take]; rfl)) ?_; (with_reducible refine (spec_l1Int.calls g s0_0 t1713 t1714 _ _ y1718 t1721 t1722 t1723 w0 _ ?side1 ?side2 ?side3 ?side4 ?side5 A7.out).mono ?_); (case side1 => repeat (first | (with_reducible first | exact HI0.out | apply IsS173.alloc | apply IsS173.drewN | apply IsS173.drew | apply IsS173.set_1 | apply IsS173.set_2) | exact HI0.out)); (case side2 => repeat (first | (with_reducible first | exact HB.out | apply ba_ | apply bn_ | apply bd_ | refine below_set ?_ (IsS173.ge HI0.out)) | exact HB.out)); (case side3 => repeat (first | exact (Kd.R_reads' HO1720.out).2.2 | (with_reducible first | refine ca_ ?_ _ | refine cn_ ?_ _ | refine cd_ ?_))); (case side4 => exact (Kd.R_reads' HO1720.out).2.1); (case side5 => exact far_slice (IsS173.own_ne HI0.out HO1720.out (by decide))); rintro e w12 ⟨rfl, hi, hb, hk⟩; refine ⟨_, rfl, ?_⟩; have n0_ := Aside0.mk (Kd.R_mono (Kd.R_keep (IsS173.apart (show IsS173 w0 _ g s0_0 t1713 t1714 from by repeat (first | (with_reducible first | exact HI0.out | apply IsS173.alloc | apply IsS173.drewN | apply IsS173.drew | apply IsS173.set_1 | apply IsS173.set_2) | exact HI0.out)) (rp_ HO1720.out) (by decide)) hk (fun _ h => h.2)) (fun _ h => h.1)); have n1_ := Aside0.mk (KeepBut.trans (by repeat (first | (with_reducible first | exact HK.out | apply KeepBut.set_ | apply keep_drewN | apply keep_drew | apply keep_alloc) | exact HK.out)) hk (.inl rfl)); have n2_ := Aside0.mk (hb); have n3_ := Aside0.mk (hi); clear HO1720; clear HK; clear HB; clear HI0; have HO1720 := n0_; have HK := n1_; have HB := n2_; have HI0 := n3_; clear n0_ n1_ n2_ n3_; (try clear hb); (try clear hb2); (try clear hk); (try clear hi)))
 go_ret
 exact ⟨by first | rfl | (simp [errW_none, errW_some] <;> rfl) | (simp [*, errW_none, errW_some] <;> rfl), by repeat (first | (with_reducible first | exact HI0.out | apply IsS173.alloc | apply IsS173.drewN | apply IsS173.drew | apply IsS173.set_1 | apply IsS173.set_2) | exact HI0.out), by repeat (first | (with_reducible first | exact HB.out | apply ba_ | apply bn_ | apply bd_ | refine below_set ?_ (IsS173.ge HI0.out)) | exact HB.out), by repeat (first | (with_reducible first | exact HK.out | apply KeepBut.set_ | apply keep_drewN | apply keep_drew | apply keep_alloc) | exact HK.out)⟩
end Go.Proofs.Ytfholjcelnkleaa.Print
end
