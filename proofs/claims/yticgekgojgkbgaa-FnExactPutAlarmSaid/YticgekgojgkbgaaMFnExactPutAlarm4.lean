import Derived.Test.YticgekgojgkbgaaMFnExactPutAlarm1
import Derived.Test.YticgekgojgkbgaaMFnExactPutAlarm3
import Derived.Test.YticgekgojgkbgaaMFnExactPutAlarm2
section
namespace Go.Proofs.Yticgekgojgkbgaa.Print
open Go.RowKit Go.Proofs.YticgekgojgkbgaaV.PrintWords Go.Proofs.YticgekgojgkbgaaV.PrintLast Go.Proofs.YticgekgojgkbgaaV.PrintMore
attribute [local go_sem] max2_int min2_int max_two min_two max_three min_three max_four min_four
set_option linter.unusedVariables false
set_option linter.unusedSimpArgs false
set_option maxHeartbeats 8000000
set_option maxRecDepth 100000
def impl_copyChain.f (k : Nat) (a0_0 : Int) (l0_1 : List (S43)) : Option (Int × (List (S43))) := (impl_copyAlarms.f k l0_1).bind fun t835 => (some (a0_0, t835))
theorem impl_copyChain.mono : ∀ a0 a1 k, LeO (impl_copyChain.f k a0 a1) (impl_copyChain.f (k + 1) a0 a1) := by
 intro a0 a1 k
 unfold impl_copyChain.f
 repeat' first | (with_reducible first | exact impl_copyAlarms.mono _ _ | exact LeO.refl _ | exact LeO.none _ | refine LeO.ite ?_ ?_ | refine LeO.bind ?_ (fun _ => ?_)) | exact impl_copyAlarms.mono _ _
theorem impl_copyChain.calls (k : Nat) (a0_0 : Int) (A0_1 : Option Addr) (c0_1 : Nat) (l0_1 : List (S43)) (r1 : Int) (r2 : List (S43)) (w : World) (hr0_1 : Kd.C k43 w A0_1 l0_1.length l0_1) (hc0_1 : l0_1.length ≤ c0_1) (h : impl_copyChain.f k a0_0 l0_1 = some (r1, r2)) :
  Calls Try.prog 110 #[.agg #[.int .i64 a0_0, .slice A0_1 l0_1.length c0_1]] w fun e w' => ∃ v1_ : Value, e = .returned (.agg #[.int .i64 r1, v1_]) ∧ Kd.S k43 43 w' w.heap.size (fun _ => True) v1_ r2 ∧ Below w.heap.size w w' := by
 have hu100 := Try.underlying100
 have HR0_1 := Aside0.mk hr0_1
 have HC0_1 := Aside0.mk hc0_1
 clear hr0_1 hc0_1
 have HB := Aside0.mk (Below.refl w.heap.size w)
 have H : ((impl_copyAlarms.f k l0_1).bind fun t835 => (some (a0_0, t835))) = some (r1, r2) := h
 clear h
 replace H := Option.bind_eq_some_iff.mp H
 obtain ⟨t835, A20, H⟩ := H
 have A2 := Aside0.mk A20
 clear A20
 simp only [Option.some.injEq, Prod.mk.injEq] at H
 obtain ⟨rfl, rfl⟩ := H
 go_enter Try.func110, Try.ntmps110
 try go_wp2_with (first | ((with_reducible refine gd_ 1 rfl ?_); refine bv_ 1 #[.int .i64 a0_0, .slice A0_1 l0_1.length c0_1] 100 ?_; intro gb833 hg w3 hbox hb; have BK833 := Aside0.mk (hbox); have GW833 := Aside0.mk ((gw_ hg (hs_ HB.out))); replace HB := st_ HB hb; have GE833 := Ge_.mk GW833.out; clear hb hbox hg) | ((with_reducible refine gd_ 2 rfl ?_); refine bv_ 2 #[.int .i64 0, .slice none 0 0] 100 ?_; intro gb834 hg w4 hbox hb; have BK834 := Aside0.mk (hbox); have GW834 := Aside0.mk ((gw_ hg (hs_ HB.out))); replace HB := st_ HB hb; have GE834 := Ge_.mk GW834.out; have NB833_834 := Ne_.mk (nl_ BK833.out hg); replace BK833 := bk2_ BK833 hb; have NB834_833 := Ne_.mk (NB833_834.out.symm); clear hb hbox hg))
 replace BK833 := Aside0.mk (blk_drew BK833.out)
 replace BK834 := Aside0.mk (blk_drew BK834.out)
 replace HB := Aside0.mk (bd_ HB.out)
 refine start_ (n := 7) (S := fun w' => w'.cell? ⟨gb833, 0, none⟩ = some (.int .i64 a0_0) ∧ w'.cell? ⟨gb833, 1, none⟩ = some (.slice A0_1 l0_1.length c0_1)) (ds := []) #[f_,f_,f_,f_,f_,f_,f_] (by kernel_rfl) rfl rfl ⟨bx_ BK833.out 0, bx_ BK833.out 1⟩ (fun hHeld => ?_)
 generalize w4.drew = w5 at BK833 BK834 HB hHeld ⊢
 refine pure_ (i := 0) (N := some 3) (v := ?_) (a' := ?_) #[t_,f_,f_,f_,f_,f_,f_] rfl rfl (by kernel_rfl) (fun _ _ _ h => h) (Or.inl ⟨by rfl, ?_⟩) ?_ ?_
 rotate_left
 ·
  intro w'
  go_simp
  with_reducible rfl
 rotate_left
 ·
  simp only [fr_]
  rfl
 refine pure_ (i := 2) (N := some 5) (v := ?_) (a' := ?_) #[t_,f_,t_,f_,f_,f_,f_] rfl rfl (by kernel_rfl) (fun _ _ _ h => h) (Or.inl ⟨by rfl, ?_⟩) ?_ ?_
 rotate_left
 ·
  intro w'
  go_simp
  with_reducible rfl
 rotate_left
 ·
  simp only [fr_]
  rfl
 refine take_ (i := 1) (N := some 4) (v := ?_) (a' := ?_) #[t_,t_,t_,f_,f_,f_,f_] rfl rfl (by kernel_rfl) (fun _ _ _ h => h) (Or.inl ⟨by rfl, ?_⟩) hHeld ?_ ?_
 rotate_left
 ·
  rintro w' ⟨s0, s1⟩
  go_simp
  with_reducible rfl
 rotate_left
 ·
  simp only [fr_]
  rfl
 refine take_ (i := 3) (N := some 6) (v := ?_) (a' := ?_) #[t_,t_,t_,t_,f_,f_,f_] rfl rfl (by kernel_rfl) (fun _ _ _ h => h) (Or.inl ⟨by rfl, ?_⟩) hHeld ?_ ?_
 rotate_left
 ·
  rintro w' ⟨s0, s1⟩
  go_simp
  with_reducible rfl
 rotate_left
 ·
  simp only [fr_]
  rfl
 refine one_ (i := 4) (N := some 7) #[t_,t_,t_,t_,t_,f_,f_] rfl rfl (by kernel_rfl) (by decide) (fun K hK => ?_)
 refine gs_ Try.func114 #[.slice A0_1 l0_1.length c0_1] ?_
 with_reducible refine (impl_copyAlarms.calls k _ _ l0_1 t835 _ ?side1 ?side2 A2.out).mono ?_
 (case side1 => exact cp_ ((Kd.C_below HR0_1.out HB.out)))
 (case side2 => exact HC0_1.out)
 rintro e w6 ⟨v836, rfl, ho0, hb⟩
 refine ⟨_, rfl, ?_⟩
 have HO837 := Aside0.mk (Kd.S_lower ho0 (below_size (hs_ HB.out)))
 replace BK833 := bk2_ BK833 hb
 replace BK834 := bk2_ BK834 hb
 replace HB := st_ HB hb
 (try clear hb)
 (try clear hk)
 (try clear ho0)
 obtain ⟨Ao7, co7, eo7⟩ := Kd.S_slice HO837.out
 (first | subst eo7 | (obtain ⟨rfl, rfl⟩ := si_ eo7))
 refine hK.out _ _ ⟨bx_ BK833.out 0, bx_ BK833.out 1⟩ (fun hHeld => ?_)
 clear hK K
 refine norm_ (a' := ?_) ?_ ?_
 rotate_left
 ·
  show Act.put _ (some 7) _ = _
  simp only [fr_]
  rfl
 refine pure_ (i := 5) (N := some 8) (v := ?_) (a' := ?_) #[t_,t_,t_,t_,t_,t_,f_] rfl rfl (by kernel_rfl) (fun _ _ _ h => h) (Or.inl ⟨by rfl, ?_⟩) ?_ ?_
 rotate_left
 ·
  intro w'
  go_simp
  with_reducible rfl
 rotate_left
 ·
  simp only [fr_]
  rfl
 refine one_ (i := 6) (N := none) #[t_,t_,t_,t_,t_,t_,t_] rfl rfl (by kernel_rfl) (by decide) (fun K hK => ?_)
 have hs8 : w6.cell? ⟨gb834, 0, none⟩ = some (.int .i64 0) := bx_ BK834.out 0
 have hfs8 := blk_frozen BK834.out 0
 have hns8_0 := NB833_834.out
 have hms8_0 := NB834_833.out
 have hs9 : w6.cell? ⟨gb834, 1, none⟩ = some (.slice none 0 0) := bx_ BK834.out 1
 have hfs9 := blk_frozen BK834.out 1
 have hns9_0 := NB833_834.out
 have hms9_0 := NB834_833.out
 refine skip_ (w1 := ?_) (by rfl) rfl ?_ ?_
 rotate_left
 ·
  go_simp
  rfl
 refine hK.out _ _ ⟨(cg_ (hHeld.1)), (cg_ (hHeld.2))⟩ (fun hHeld => ?_)
 clear hK K
 refine done_ (by kernel_rfl) ?_
 try go_wp2
 refine bodyPost_ret (results_cell_row rfl _ _ gb834 100 #[.int .i64 a0_0, .slice Ao7 t835.length co7] (0, 0) _ rfl (bp_ BK834.out) Try.underlying100 rfl (by kernel_rfl)) rfl ?_
 exact ⟨_, by first | rfl | (simp [errW_none, errW_some] <;> rfl) | (simp [*, errW_none, errW_some] <;> rfl), by (with_reducible repeat (first | apply Kd.S_alloc | apply Kd.S_drewN | apply Kd.S_drew)); exact Kd.S_mono (sf_ gb834 (Kd.S_types HO837.out BK834.out (by decide)) (fun _ hk => hk.2)) (fun _ hk => trivial), by exact hs_ HB.out⟩
def impl_copyPart.l0 : Nat → List (S100) → Int → Int → Int → Int → List (S100) → Option (Int × Int × (List (S100)))
 | 0, _, _, _, _, _, _ => none
 | k + 1, x12, x13, x14, x841000, x841001, x841002 => if x14 < x13 then (if 0 ≤ x14 then (if x14 < (x12.length : Int) then ((impl_copyChain.f k ((rd_T100 x12 x14).f0) ((rd_T100 x12 x14).f1)).bind fun bt843 => (if x841002.length < 4398046511104 then (impl_copyPart.l0 k x12 x13 (wrap64 (x14 + 1)) x841000 x841001 (x841002 ++ [(⟨bt843.1, bt843.2⟩ : S100)])) else (none))) else (none)) else (none)) else (some (x841000, x841001, x841002))
def impl_copyPart.f (k : Nat) (a0_0 : Int) (a0_1 : Int) (l0_2 : List (S100)) : Option (Int × Int × (List (S100))) := impl_copyPart.l0 k l0_2 (l0_2.length : Int) 0 a0_0 a0_1 ([] : List (S100))
theorem impl_copyPart.mono_l : ∀ k, (∀ y0 y1 y2 y3 y4 y5, LeO (impl_copyPart.l0 k y0 y1 y2 y3 y4 y5) (impl_copyPart.l0 (k + 1) y0 y1 y2 y3 y4 y5))
 | 0 => fun _ _ _ _ _ _ r h => by simp [impl_copyPart.l0] at h
 | k + 1 => by
  have ih0 := impl_copyPart.mono_l k
  intro y0 y1 y2 y3 y4 y5
  unfold impl_copyPart.l0
  repeat' first
  | (with_reducible exact ih0 _ _ _ _ _ _)
  | (with_reducible exact impl_copyChain.mono _ _ _)
  | (with_reducible exact LeO.refl _)
  | (with_reducible exact LeO.none _)
  | (with_reducible refine LeO.ite ?_ ?_)
  | (with_reducible refine LeO.bind ?_ (fun _ => ?_))
  | exact ih0 _ _ _ _ _ _
  | exact impl_copyChain.mono _ _ _
theorem impl_copyPart.mono : ∀ a0 a1 a2 k, LeO (impl_copyPart.f k a0 a1 a2) (impl_copyPart.f (k + 1) a0 a1 a2) := by
 intro a0 a1 a2 k
 have ih0 := impl_copyPart.mono_l k
 unfold impl_copyPart.f
 repeat' first | (with_reducible first | exact ih0 _ _ _ _ _ _ | exact impl_copyChain.mono _ _ _ | exact LeO.refl _ | exact LeO.none _ | refine LeO.ite ?_ ?_ | refine LeO.bind ?_ (fun _ => ?_)) | exact ih0 _ _ _ _ _ _ | exact impl_copyChain.mono _ _ _
def impl_copyPart.T5 : Bool × List (List Nat × List Nat) := (true, [([], []), ([0], [0]), ([], []), ([2], [2]), ([3], [3]), ([1, 4, 3], [1, 4]), ([0, 1, 2, 3, 4, 5], []), ([6, 5, 5, 0, 1, 2, 3, 4, 5], [5, 6])])
def impl_copyPart.B5 : List Nat := [0, 1, 0, 4, 12, 31, 63, 127]
theorem impl_copyPart.tab5 : rtab .any (opsOf Try.f86 5) = impl_copyPart.T5 := by kernel_rfl
theorem impl_copyPart.bits5 : waitsOk impl_copyPart.T5.2 impl_copyPart.B5 = true := by kernel_rfl
theorem impl_copyPart.calls (k : Nat) (a0_0 : Int) (a0_1 : Int) (A0_2 : Option Addr) (c0_2 : Nat) (l0_2 : List (S100)) (r1 : Int) (r2 : Int) (r3 : List (S100)) (w : World) (hr0_2 : Kd.C k100 w A0_2 l0_2.length l0_2) (hc0_2 : l0_2.length ≤ c0_2) (h : impl_copyPart.f k a0_0 a0_1 l0_2 = some (r1, r2, r3)) :
  Calls Try.prog 86 #[.agg #[.int .i64 a0_0, .int .i64 a0_1, .slice A0_2 l0_2.length c0_2]] w fun e w' => ∃ v2_ : Value, e = .returned (.agg #[.int .i64 r1, .int .i64 r2, v2_]) ∧ Kd.S k100 100 w' w.heap.size (fun _ => True) v2_ r3 ∧ Below w.heap.size w w' := by
 have hu57 := Try.underlying57
 have hu100 := Try.underlying100
 have HR0_2 := Aside0.mk hr0_2
 have HC0_2 := Aside0.mk hc0_2
 clear hr0_2 hc0_2
 have HB := Aside0.mk (Below.refl w.heap.size w)
 have H : (impl_copyPart.l0 k l0_2 (l0_2.length : Int) 0 a0_0 a0_1 ([] : List (S100))) = some (r1, r2, r3) := h
 clear h
 have H' := Aside0.mk H
 clear H
 go_enter Try.func86, Try.ntmps86
 go_wp2_with (first | ((with_reducible refine gd_ 1 rfl ?_); refine bv_ 1 #[.int .i64 a0_0, .int .i64 a0_1, .slice A0_2 l0_2.length c0_2] 57 ?_; intro gb838 hg w2 hbox hb; have BK838 := Aside0.mk (hbox); have GW838 := Aside0.mk ((gw_ hg (hs_ HB.out))); replace HB := st_ HB hb; have GE838 := Ge_.mk GW838.out; clear hb hbox hg) | ((with_reducible refine gd_ 2 rfl ?_); refine bv_ 2 #[.int .i64 0, .int .i64 0, .slice none 0 0] 57 ?_; intro gb839 hg w3 hbox hb; have BK839 := Aside0.mk (hbox); have GW839 := Aside0.mk ((gw_ hg (hs_ HB.out))); replace HB := st_ HB hb; have GE839 := Ge_.mk GW839.out; have NB838_839 := Ne_.mk (nl_ BK838.out hg); replace BK838 := bk2_ BK838 hb; have NB839_838 := Ne_.mk (NB838_839.out.symm); clear hb hbox hg; have hnb4 := NB838_839.out; have hnc4 := NB839_838.out; obtain ⟨z5_0, z5_1, z5_2, y5_0, y5_1, y5_2⟩ := bc3_ BK838.out) | ((with_reducible refine gd_ 3 rfl ?_); refine bv_ 3 #[.int .i64 0, .int .i64 0, .slice none 0 0] 57 ?_; intro gb840 hg w6 hbox hb; have BK840 := Aside0.mk (hbox); have GW840 := Aside0.mk ((gw_ hg (hs_ HB.out))); replace HB := st_ HB hb; have GE840 := Ge_.mk GW840.out; have NB838_840 := Ne_.mk (nl_ BK838.out hg); replace BK838 := bk2_ BK838 hb; have NB840_838 := Ne_.mk (NB838_840.out.symm); have NB839_840 := Ne_.mk (nl_ BK839.out hg); replace BK839 := bk2_ BK839 hb; have NB840_839 := Ne_.mk (NB839_840.out.symm); clear hb hbox hg; have hnb7 := NB840_838.out; have hnc7 := NB838_840.out; have hnb8 := NB840_839.out; have hnc8 := NB839_840.out; obtain ⟨z9_0, z9_1, z9_2, y9_0, y9_1, y9_2⟩ := bc3_ BK840.out; obtain ⟨z10_0, z10_1, z10_2, y10_0, y10_1, y10_2⟩ := bc3_ BK838.out))
 go_loopg [14] k (fun kq v14 w' => ∃ (x14_1 : Int) (x841002_1 : List (S100)) (u841002 : Value), v14 = .int .i64 x14_1 ∧ Aside0 (impl_copyPart.l0 kq l0_2 (l0_2.length : Int) x14_1 a0_0 a0_1 x841002_1 = some (r1, r2, r3)) ∧ Aside0 (kq ≤ k) ∧ Aside0 (Kd.S k100 100 w' w.heap.size (fun _ => True) u841002 x841002_1) ∧ Aside0 (w'.heap[gb838]? = some (.cells #[.int .i64 a0_0, .int .i64 a0_1, (.slice A0_2 l0_2.length c0_2)] 57 (0, 0))) ∧ Aside0 (w'.heap[gb839]? = some (.cells #[.int .i64 0, .int .i64 0, (.slice none 0 0)] 57 (0, 0))) ∧ Aside0 (w'.heap[gb840]? = some (.cells #[.int .i64 a0_0, .int .i64 a0_1, u841002] 57 (0, 0))) ∧ Aside0 (Below w.heap.size w w'))
 case atStart => exact ⟨(0), (([] : List (S100))), (.slice none 0 0), (by first | rfl | (simp; done) | (simp [*]; done)), H', ⟨Nat.le_refl _⟩, ⟨by first | exact Kd.S_nil _ _ _ _ _ | exact Kd.N_nil _ _ _ _ _ | exact Kd.V_nil _ _ _ _ _ | exact Kd.Q_nil _ _ _ _ _ | exact Kd.R_nil _ _ _ _ _⟩, ⟨bq_ BK838.out⟩, ⟨bq_ BK839.out⟩, ⟨bp_ BK840.out⟩, ⟨by exact hs_ HB.out⟩⟩
 case round =>
  clear H'
  try clear p2
  try clear c4
  try clear c7
  try clear c8
  try clear z10_0 z10_1 z10_2
  try clear z5_0 z5_1 z5_2
  try clear z9_0 z9_1 z9_2
  try clear y10_0 y10_1 y10_2
  try clear y5_0 y5_1 y5_2
  try clear y9_0 y9_1 y9_2
  obtain ⟨x14_1, x841002_1, u841002, rfl, HA, HK1, HO_841002, BK838, BK839, BK840, HB⟩ := hrel
  cases gk with
  | zero => exact absurd HA.out (by simp [impl_copyPart.l0])
  | succ k1 =>
   have H := HA.out
   clear HA
   simp only [impl_copyPart.l0] at H
   by_cases c11 : x14_1 < (l0_2.length : Int)
   ·
    rw [if_pos c11] at H
    have c11b0 := decide_eq_true c11
    clear c11
    by_cases c12 : 0 ≤ x14_1
    ·
     rw [if_pos c12] at H
     have c12b0 := decide_eq_true c12
     clear c12
     by_cases c13 : x14_1 < (l0_2.length : Int)
     ·
      rw [if_pos c13] at H
      have c13b0 := decide_eq_true c13
      clear c13
      replace H := Option.bind_eq_some_iff.mp H
      obtain ⟨⟨t843, t844⟩, A140, H⟩ := H
      have A14 := Aside0.mk A140
      clear A140
      by_cases c15 : x841002_1.length < 4398046511104
      ·
       rw [if_pos c15] at H
       have LMc15 := Aside0.mk c15
       clear c15
       obtain ⟨y847, hy847⟩ : ∃ y_ : List (S100), y_ = (x841002_1 ++ [(⟨t843, t844⟩ : S100)]) := ⟨_, rfl⟩
       replace H : (impl_copyPart.l0 k1 l0_2 (l0_2.length : Int) (wrap64 (x14_1 + 1)) a0_0 a0_1 y847) = some (r1, r2, r3) := by first | (rw [hy847]; with_reducible exact H) | (have H2_ := (Option.bind_some _ _).symm.trans H; rw [hy847]; with_reducible exact H2_) | (have H2_ := (Option.bind_some _ _).symm.trans H; with_reducible exact H2_) | with_reducible exact H | (rw [hy847]; exact H) | exact H
       have Ny847 := Aside0.mk hy847
       clear hy847
       have H' := Aside0.mk H
       clear H
       have p841 : 0 ≤ (x14_1 : Int) := of_decide_eq_true (by with_reducible assumption)
       have q841 : x14_1 < (l0_2.length : Int) := of_decide_eq_true (by with_reducible assumption)
       obtain ⟨ad841, A841_1, c841_1, e841, hx841_0, hx841_1, hl841_1, hi841_1⟩ := at_T100 HR0_2.out x14_1 p841 q841
       cases e841
       replace hx841_0 := cl_ HB.out hx841_0
       replace hx841_1 := cl_ HB.out hx841_1
       have HR841_1 := Aside0.mk hi841_1
       have HC841_1 := Aside0.mk hl841_1
       clear hi841_1 hl841_1
       replace p841 := eq_true p841
       replace q841 := eq_true q841
       try go_wp2_with (first | ((with_reducible refine gd_ 5 rfl ?_); refine bv_ 5 #[.int .i64 0, .slice none 0 0] 100 ?_; intro gb842 hg w16 hbox hb; replace HO_841002 := Aside0.mk (Kd.S_below (Kd.S_elderB (sp_ HO_841002.out) gb842 (Nat.le_of_eq hg.symm)) hb); have BK842 := Aside0.mk (hbox); have GW842 := Aside0.mk ((gw_ hg (hs_ HB.out))); replace HB := st_ HB hb; have GE842 := Ge_.mk GW842.out; have NB838_842 := Ne_.mk (nl_ BK838.out hg); replace BK838 := bk2_ BK838 hb; have NB842_838 := Ne_.mk (NB838_842.out.symm); have NB839_842 := Ne_.mk (nl_ BK839.out hg); replace BK839 := bk2_ BK839 hb; have NB842_839 := Ne_.mk (NB839_842.out.symm); have NB840_842 := Ne_.mk (nl_ BK840.out hg); replace BK840 := bk2_ BK840 hb; have NB842_840 := Ne_.mk (NB840_842.out.symm); clear hb hbox hg; have hnb17 := NB842_838.out; have hnc17 := NB838_842.out; have hnb18 := NB842_839.out; have hnc18 := NB839_842.out; have hnb19 := NB842_840.out; have hnc19 := NB840_842.out; obtain ⟨z20_0, z20_1, y20_0, y20_1⟩ := bc2_ BK842.out))
       generalize hw_ : ((w16.setCell ⟨gb842, 0, none⟩ (.int .i64 ((rd_T100 l0_2 x14_1).f0))).setCell ⟨gb842, 1, none⟩ (.slice A841_1 ((rd_T100 l0_2 x14_1).f1).length c841_1)) = w21
       have n0_ : Aside0 (Kd.S k100 100 w21 w.heap.size (fun k_ => k_ ≠ gb842) u841002 x841002_1) := ⟨by rw [← hw_]; exact (Kd.S_mono (sf_ gb842 (Kd.S_mono HO_841002.out (fun k_ hk => (⟨hk, hk.2⟩ : _ ∧ k_ ≠ gb842))) (fun _ hk => hk.2)) (fun _ hk => hk.1.2))⟩
       have n1_ : Aside0 (w21.heap[gb838]? = some (.cells #[.int .i64 a0_0, .int .i64 a0_1, .slice (some ad841) l0_2.length c0_2] 57 (0, 0))) := ⟨by rw [← hw_]; exact (bq_ BK838.out)⟩
       have n2_ : Aside0 (w21.heap[gb839]? = some (.cells #[.int .i64 0, .int .i64 0, .slice none 0 0] 57 (0, 0))) := ⟨by rw [← hw_]; exact (bq_ BK839.out)⟩
       have n3_ : Aside0 (w21.heap[gb840]? = some (.cells #[.int .i64 a0_0, .int .i64 a0_1, u841002] 57 (0, 0))) := ⟨by rw [← hw_]; exact (bq_ BK840.out)⟩
       have n4_ : Aside0 (w21.heap[gb842]? = some (.cells #[.int .i64 ((rd_T100 l0_2 x14_1).f0), .slice A841_1 ((rd_T100 l0_2 x14_1).f1).length c841_1] 100 (0, 0))) := ⟨by rw [← hw_]; exact (bp_ BK842.out)⟩
       have n5_ : Aside0 (Below w.heap.size w w21) := ⟨by rw [← hw_]; exact (hs_ HB.out)⟩
       clear hw_
       (try clear HO_841002)
       (try clear BK838)
       (try clear BK839)
       (try clear BK840)
       (try clear BK842)
       (try clear HB)
       have HO_841002 := n0_
       have BK838 := n1_
       have BK839 := n2_
       have BK840 := n3_
       have BK842 := n4_
       have HB := n5_
       clear n0_ n1_ n2_ n3_ n4_ n5_
       replace HO_841002 := Aside0.mk (Kd.S_drew HO_841002.out)
       replace BK838 := Aside0.mk (blk_drew BK838.out)
       replace BK839 := Aside0.mk (blk_drew BK839.out)
       replace BK840 := Aside0.mk (blk_drew BK840.out)
       replace BK842 := Aside0.mk (blk_drew BK842.out)
       replace HB := Aside0.mk (bd_ HB.out)
       refine start_ (n := 8) (S := fun w' => w'.cell? ⟨gb840, 0, none⟩ = some (.int .i64 a0_0) ∧ w'.cell? ⟨gb840, 1, none⟩ = some (.int .i64 a0_1) ∧ w'.cell? ⟨gb840, 2, none⟩ = some (u841002) ∧ w'.cell? ⟨gb842, 0, none⟩ = some (.int .i64 ((rd_T100 l0_2 x14_1).f0)) ∧ w'.cell? ⟨gb842, 1, none⟩ = some (.slice A841_1 ((rd_T100 l0_2 x14_1).f1).length c841_1)) (ds := [7]) #[f_,f_,f_,f_,f_,f_,f_,f_] (by kernel_rfl) rfl rfl ⟨bx_ BK840.out 0, bx_ BK840.out 1, bx_ BK840.out 2, bx_ BK842.out 0, bx_ BK842.out 1⟩ (fun hHeld => ?_); refine with_tabW impl_copyPart.tab5 impl_copyPart.bits5 (fun HT_ HW_ => ?_)
       generalize w21.drew = w22 at HO_841002 BK838 BK839 BK840 BK842 HB hHeld ⊢
       refine pw_ 0 18 (b_ 1 7) rfl rfl HT_.out ?_
       refine take_ (i := 1) (N := some 19) (v := ?_) (a' := ?_) #[t_,t_,f_,f_,f_,f_,f_,f_] rfl rfl (take_ofW HT_.out HW_.out (by kernel_rfl)) (fun _ _ _ h => h) (Or.inl ⟨by rfl, ?_⟩) hHeld ?_ ?_
       rotate_left
       ·
        rintro w' ⟨s0, s1, s2, s3, s4⟩
        go_simp
        with_reducible rfl
       rotate_left
       ·
        simp only [fr_]
        rfl
       refine take_ (i := 2) (N := some 20) (v := ?_) (a' := ?_) #[t_,t_,t_,f_,f_,f_,f_,f_] rfl rfl (take_ofW HT_.out HW_.out (by kernel_rfl)) (fun _ _ _ h => h) (Or.inl ⟨by rfl, ?_⟩) hHeld ?_ ?_
       rotate_left
       ·
        rintro w' ⟨s0, s1, s2, s3, s4⟩
        go_simp
        with_reducible rfl
       rotate_left
       ·
        simp only [fr_]
        rfl
       refine one_ (i := 3) (N := some 21) #[t_,t_,t_,t_,f_,f_,f_,f_] rfl rfl (one_of HT_.out (by kernel_rfl)) (by decide) (fun K hK => ?_)
       refine gs_ Try.func110 #[.agg #[.int .i64 ((rd_T100 l0_2 x14_1).f0), .slice A841_1 ((rd_T100 l0_2 x14_1).f1).length c841_1]] ?_
       with_reducible refine (impl_copyChain.calls k1 ((rd_T100 l0_2 x14_1).f0) _ _ ((rd_T100 l0_2 x14_1).f1) t843 t844 _ ?side1 ?side2 A14.out).mono ?_
       (case side1 => exact cp_ ((Kd.C_below HR841_1.out HB.out)))
       (case side2 => exact HC841_1.out)
       rintro e w23 ⟨v845, rfl, ho0, hb⟩
       refine ⟨_, rfl, ?_⟩
       obtain ⟨gbz845, hz845⟩ := Kd.S_name ho0
       replace HO_841002 := Aside0.mk (Kd.S_below (Kd.S_ltz hz845 (sp_ HO_841002.out)) hb)
       have HO846 := Aside0.mk (Kd.S_lower (Kd.S_gez hz845 ho0) (below_size (hs_ HB.out)))
       replace BK838 := bk2_ BK838 hb
       replace BK839 := bk2_ BK839 hb
       replace BK840 := bk2_ BK840 hb
       replace BK842 := bk2_ BK842 hb
       replace HB := st_ HB hb
       (try clear hb)
       (try clear hk)
       (try clear ho0)
       obtain ⟨Ao25, co25, eo25⟩ := Kd.S_slice HO846.out
       (first | subst eo25 | (obtain ⟨rfl, rfl⟩ := si_ eo25))
       obtain ⟨PXP26, hPXP26, hPlP26⟩ := Kd.S_fp (Kd.S_types (Kd.S_apart' (HO846.out) (Kd.S_typed HO_841002.out) (by decide)) BK842.out (by decide))
       refine hK.out _ _ ⟨bx_ BK840.out 0, bx_ BK840.out 1, bx_ BK840.out 2, bx_ BK842.out 0, bx_ BK842.out 1⟩ (fun hHeld => ?_)
       clear hK K
       refine norm_ (a' := ?_) ?_ ?_
       rotate_left
       ·
        show Act.put _ (some 21) _ = _
        simp only [fr_]
        rfl
       refine one_ (i := 4) (N := some 22) #[t_,t_,t_,t_,t_,f_,f_,f_] rfl rfl (one_of HT_.out (by kernel_rfl)) (by decide) (fun K hK => ?_)
       refine value_ (w1 := ?_) (v := ?_) (by rfl) rfl ?_ ?_
       rotate_left 2
       ·
        go_simp
        constructor
        ·
         rfl
        rfl
       refine hK.out _ _ ⟨(blk_cell (blk_alloc BK840.out _) 0).trans rfl, (blk_cell (blk_alloc BK840.out _) 1).trans rfl, (blk_cell (blk_alloc BK840.out _) 2).trans rfl, (blk_cell (blk_alloc BK842.out _) 0).trans rfl, (blk_cell (blk_alloc BK842.out _) 1).trans rfl⟩ (fun hHeld => ?_)
       clear hK K
       refine norm_ (a' := ?_) ?_ ?_
       rotate_left
       ·
        show Act.put _ (some 22) _ = _
        simp only [fr_]
        rfl
       refine one_ (i := 5) (N := some 23) #[t_,t_,t_,t_,t_,t_,f_,f_] rfl rfl (one_of HT_.out (by kernel_rfl)) (by decide) (fun K hK => ?_)
       refine Kd.S_append_step k100 (w0 := w) w.heap.size (by rfl) (.tmp 19) (.tmp 22) 55 100 (.agg #[(.int .i64 0), (.slice none 0 0)]) 32 rfl Try.underlying55 info100 rfl (by decide) (by omega) u841002 x841002_1 (⟨t843, t844⟩ : S100) [.int .i64 t843, .slice Ao25 t844.length co25] (fun k_ => k_ ≠ gb842) (fun k_ => PXP26 k_) rfl rfl ?aP (fun k_ hk_ => ⟨(hPlP26 k_ hk_).1.2, (hPlP26 k_ hk_).1.1.2⟩) ?aF ?aO ?aB ?aS ?aL ?_
       (case aP => exact k100_mkM _ _ _ (⟨t843, t844⟩ : S100) (Kd.S_mono hPXP26 (fun _ h_ => h_)))
       (case aB => exact (hs_ HB.out))
       (case aF => exact (fun k_ hk => Kd.freshB (g := gb842) (o := .cells #[.int .i64 ((rd_T100 l0_2 x14_1).f0), .slice A841_1 ((rd_T100 l0_2 x14_1).f1).length c841_1] 100 (0, 0)) (pb_ BK842.out) k_ hk))
       (case aO => exact (Kd.S_mono (sp_ HO_841002.out) (fun k_ hk => ⟨hk.1, fun e_ => (fun ez_ => Nat.lt_irrefl _ (Nat.lt_of_lt_of_le hk.2 (hPlP26 _ ez_).1.1.1.2)) e_⟩)))
       (case aS => exact (below_size (hs_ HB.out)))
       (case aL => have := LMc15.out; omega)
       intro v848 w24 ho hb hg hat
       rw [← Ny847.out] at ho
       replace BK838 := Aside0.mk (blk_grown (bq_ BK838.out) hg (Kd.S_ne HO_841002.out BK838.out (by decide)))
       replace BK839 := Aside0.mk (blk_grown (bq_ BK839.out) hg (Kd.S_ne HO_841002.out BK839.out (by decide)))
       replace BK840 := Aside0.mk (blk_grown (bq_ BK840.out) hg (Kd.S_ne HO_841002.out BK840.out (by decide)))
       replace BK842 := Aside0.mk (blk_grown (bq_ BK842.out) hg (Kd.S_away HO_841002.out (fun _ hk => hk.1)))
       replace HB := Aside0.mk (hb)
       have HO849 := Aside0.mk (ho)
       clear HO_841002 HO846
       clear ho hb hg hat
       obtain ⟨Ao27, co27, eo27⟩ := Kd.S_slice HO849.out
       (first | subst eo27 | (obtain ⟨rfl, rfl⟩ := si_ eo27))
       refine hK.out _ _ ⟨bx_ BK840.out 0, bx_ BK840.out 1, bx_ BK840.out 2, bx_ BK842.out 0, bx_ BK842.out 1⟩ (fun hHeld => ?_)
       clear hK K
       refine norm_ (a' := ?_) ?_ ?_
       rotate_left
       ·
        show Act.put _ (some 23) _ = _
        simp only [fr_]
        rfl
       refine pw_ 6 24 (b_ 7 1) rfl rfl HT_.out ?_
       refine last_ (i := 7) (N := none) #[t_,t_,t_,t_,t_,t_,t_,t_] rfl rfl (one_of HT_.out (by kernel_rfl)) (by decide) (fun K hK => ?_)
       have hs28 : w24.cell? ⟨gb840, 2, none⟩ = some (u841002) := bx_ BK840.out 2
       have hfs28 := blk_frozen BK840.out 2
       have hns28_0 := NB838_840.out
       have hns28_1 := NB839_840.out
       have hns28_3 := NB842_840.out
       have hms28_0 := NB840_838.out
       have hms28_1 := NB840_839.out
       have hms28_3 := NB840_842.out
       refine skip_ (w1 := ?_) (by rfl) rfl ?_ ?_
       rotate_left
       ·
        go_simp
        rfl
       refine hK.out _ _ ?_
       clear hK K
       refine done_ (done_of HT_.out (by kernel_rfl)) ?_
       try go_wp2
       go_roundg k1
       case measure => have := HK1.out; omega
       case rel => exact ⟨(wrap64 (x14_1 + 1)), (y847), (.slice Ao27 y847.length co27), (by first | rfl | (simp; done) | (simp [*]; done)), H', ⟨by have := HK1.out; omega⟩, ⟨by (with_reducible repeat (first | apply Kd.S_alloc | apply Kd.S_drewN | apply Kd.S_drew)); exact Kd.S_mono (sf_ gb840 (Kd.S_types HO849.out BK840.out (by decide)) (fun _ hk => hk.2)) (fun _ hk => trivial)⟩, ⟨bq_ BK838.out⟩, ⟨bq_ BK839.out⟩, ⟨bp_ BK840.out⟩, ⟨by exact hs_ HB.out⟩⟩
      rw [if_neg c15] at H
      exact absurd H (by simp)
     rw [if_neg c13] at H
     exact absurd H (by simp)
    rw [if_neg c12] at H
    exact absurd H (by simp)
   rw [if_neg c11] at H
   have c11b0 : decide (x14_1 < (l0_2.length : Int)) = false := decide_eq_false c11
   clear c11
   simp only [Option.some.injEq, Prod.mk.injEq] at H
   obtain ⟨rfl, rfl, rfl⟩ := H
   have hnb29 := NB840_838.out
   have hnc29 := NB838_840.out
   have hnb30 := NB840_839.out
   have hnc30 := NB839_840.out
   obtain ⟨z31_0, z31_1, z31_2, y31_0, y31_1, y31_2⟩ := bc3_ BK840.out
   have hnb32 := NB839_838.out
   have hnc32 := NB838_839.out
   obtain ⟨z33_0, z33_1, z33_2, y33_0, y33_1, y33_2⟩ := bc3_ BK839.out
   obtain ⟨Ao34, co34, eo34⟩ := Kd.S_slice HO_841002.out
   subst eo34
   go_wp2
   refine bodyPost_ret (results_cell_row rfl _ _ gb839 57 #[.int .i64 a0_0, .int .i64 a0_1, .slice Ao34 x841002_1.length co34] (0, 0) _ rfl (bp_ BK839.out) Try.underlying57 rfl (by kernel_rfl)) rfl ?_
   exact ⟨_, by first | rfl | (simp [errW_none, errW_some] <;> rfl) | (simp [*, errW_none, errW_some] <;> rfl), by (with_reducible repeat (first | apply Kd.S_alloc | apply Kd.S_drewN | apply Kd.S_drew)); exact Kd.S_mono (sf_ gb839 (Kd.S_types HO_841002.out BK839.out (by decide)) (fun _ hk => hk.2)) (fun _ hk => trivial), by exact hs_ HB.out⟩
end Go.Proofs.Yticgekgojgkbgaa.Print
end
section
namespace Go.Proofs.Yticgekgojgkbgaa.Print
open Go.RowKit Go.Proofs.YticgekgojgkbgaaV.PrintWords Go.Proofs.YticgekgojgkbgaaV.PrintLast Go.Proofs.YticgekgojgkbgaaV.PrintMore
attribute [local go_sem] max2_int min2_int max_two min_two max_three min_three max_four min_four
set_option linter.unusedVariables false
set_option linter.unusedSimpArgs false

attribute [local go_sem high] eqA88
set_option maxHeartbeats 8000000
set_option maxRecDepth 100000
def impl_SameSet.l0 : Nat → List (S88) → List (S88) → Int → Int → Option (Bool)
 | 0, _, _, _, _ => none
 | k + 1, x0, x1, x12, x13 => if x13 < x12 then (if 0 ≤ x13 then (if x13 < (x0.length : Int) then (if x13 < (x1.length : Int) then (if (!((((rd_T88 x0 x13).f0).toList) == (((rd_T88 x1 x13).f0).toList)) || (!((((rd_T88 x0 x13).f1).toList) == (((rd_T88 x1 x13).f1).toList)))) = true then (some false) else (impl_SameSet.l0 k x0 x1 x12 (wrap64 (x13 + 1)))) else (none)) else (none)) else (none)) else (some true)
def impl_SameSet.f (k : Nat) (l0 : List (S88)) (l1 : List (S88)) : Option (Bool) := if (l0.length : Int) = (l1.length : Int) then (impl_SameSet.l0 k l0 l1 (l0.length : Int) 0) else (some false)
theorem impl_SameSet.mono_l : ∀ k, (∀ y0 y1 y2 y3, LeO (impl_SameSet.l0 k y0 y1 y2 y3) (impl_SameSet.l0 (k + 1) y0 y1 y2 y3))
 | 0 => fun _ _ _ _ r h => by simp [impl_SameSet.l0] at h
 | k + 1 => by
  have ih0 := impl_SameSet.mono_l k
  intro y0 y1 y2 y3
  unfold impl_SameSet.l0
  repeat' first
  | (with_reducible exact ih0 _ _ _ _)
  | (with_reducible exact LeO.refl _)
  | (with_reducible exact LeO.none _)
  | (with_reducible refine LeO.ite ?_ ?_)
  | (with_reducible refine LeO.bind ?_ (fun _ => ?_))
  | exact ih0 _ _ _ _
theorem impl_SameSet.mono : ∀ a0 a1 k, LeO (impl_SameSet.f k a0 a1) (impl_SameSet.f (k + 1) a0 a1) := by
 intro a0 a1 k
 have ih0 := impl_SameSet.mono_l k
 unfold impl_SameSet.f
 repeat' first | (with_reducible first | exact ih0 _ _ _ _ | exact LeO.refl _ | exact LeO.none _ | refine LeO.ite ?_ ?_ | refine LeO.bind ?_ (fun _ => ?_)) | exact ih0 _ _ _ _
theorem impl_SameSet.calls (k : Nat) (A0 : Option Addr) (c0 : Nat) (l0 : List (S88)) (A1 : Option Addr) (c1 : Nat) (l1 : List (S88)) (r : Bool) (w : World) (hr0 : Kd.C k88 w A0 l0.length l0) (hc0 : l0.length ≤ c0) (hr1 : Kd.C k88 w A1 l1.length l1) (hc1 : l1.length ≤ c1) (h : impl_SameSet.f k l0 l1 = some r) :
  Calls Try.prog 123 #[.slice A0 l0.length c0, .slice A1 l1.length c1] w fun e w' => e = .returned (.bool r) ∧ Drawn0 w w' := by
 have hu88 := Try.underlying88
 have HR0 := Aside0.mk hr0
 have HC0 := Aside0.mk hc0
 clear hr0 hc0
 have HR1 := Aside0.mk hr1
 have HC1 := Aside0.mk hc1
 clear hr1 hc1
 have H : (if (l0.length : Int) = (l1.length : Int) then (impl_SameSet.l0 k l0 l1 (l0.length : Int) 0) else (some false)) = some r := h
 clear h
 by_cases c3 : (l0.length : Int) = (l1.length : Int)
 ·
  rw [if_pos c3] at H
  have c3b0 : ((l0.length : Int) == (l1.length : Int)) = true := beq_iff_eq.mpr c3
  have c3b1 : ((l0.length : Int) != (l1.length : Int)) = false := bne_eq_false_iff_eq.mpr c3
  have c3b2 : (l0.length == l1.length) = true := by first | simpa using c3 | (simp at c3 ⊢; omega)
  clear c3
  have H' := Aside0.mk H
  clear H
  go_enter Try.func123, Try.ntmps123
  go_wp2
  repeat (go_quiet (fail); try go_wp2)
  go_loopg [13] k (fun kq v13 w' => ∃ (x13_1 : Int), v13 = .int .i64 x13_1 ∧ Aside0 (impl_SameSet.l0 kq l0 l1 (l0.length : Int) x13_1 = some r) ∧ Aside0 (kq ≤ k) ∧ Drawn0 w w')
  case atStart => exact ⟨(0), (by first | rfl | (simp; done) | (simp [*]; done)), H', ⟨Nat.le_refl _⟩, by repeat (first | exact Drawn0.refl _ | apply Drawn0.step)⟩
  case round =>
   clear H'
   try clear c1
   try clear p2
   try clear c3
   try clear c3b0
   try clear c3b1
   try clear c3b2
   obtain ⟨x13_1, rfl, HA, HK1, ⟨m1, rfl⟩⟩ := hrel
   cases gk with
   | zero => exact absurd HA.out (by simp [impl_SameSet.l0])
   | succ k1 =>
    have H := HA.out
    clear HA
    simp only [impl_SameSet.l0] at H
    by_cases c4 : x13_1 < (l0.length : Int)
    ·
     rw [if_pos c4] at H
     have c4b0 := decide_eq_true c4
     clear c4
     by_cases c5 : 0 ≤ x13_1
     ·
      rw [if_pos c5] at H
      have c5b0 := decide_eq_true c5
      clear c5
      by_cases c6 : x13_1 < (l0.length : Int)
      ·
       rw [if_pos c6] at H
       have c6b0 := decide_eq_true c6
       clear c6
       by_cases c7 : x13_1 < (l1.length : Int)
       ·
        rw [if_pos c7] at H
        have c7b0 := decide_eq_true c7
        clear c7
        by_cases c8 : (!((((rd_T88 l0 x13_1).f0).toList) == (((rd_T88 l1 x13_1).f0).toList)) || (!((((rd_T88 l0 x13_1).f1).toList) == (((rd_T88 l1 x13_1).f1).toList)))) = true
        ·
         rw [if_pos c8] at H
         have c8b0 : (!((((rd_T88 l0 x13_1).f0).toList) == (((rd_T88 l1 x13_1).f0).toList)) || (!((((rd_T88 l0 x13_1).f1).toList) == (((rd_T88 l1 x13_1).f1).toList)))) = true := c8
         clear c8
         obtain rfl := Option.some.inj H
         have p404 : 0 ≤ (x13_1 : Int) := of_decide_eq_true (by with_reducible assumption)
         have q404 : x13_1 < (l0.length : Int) := of_decide_eq_true (by with_reducible assumption)
         obtain ⟨ad404, e404, hx404_0, hx404_1⟩ := at_T88 HR0.out x13_1 p404 q404
         cases e404
         replace p404 := eq_true p404
         replace q404 := eq_true q404
         have p405 : 0 ≤ (x13_1 : Int) := of_decide_eq_true (by with_reducible assumption)
         have q405 : x13_1 < (l1.length : Int) := of_decide_eq_true (by with_reducible assumption)
         obtain ⟨ad405, e405, hx405_0, hx405_1⟩ := at_T88 HR1.out x13_1 p405 q405
         cases e405
         replace p405 := eq_true p405
         replace q405 := eq_true q405
         go_wp2
         repeat (go_quiet (fail); try go_wp2)
         go_ret
         exact ⟨by first | rfl | (simp; done) | (simp [*]; done), by repeat (first | exact Drawn0.refl _ | apply Drawn0.step)⟩
        rw [if_neg c8] at H
        have c8b0 : (!((((rd_T88 l0 x13_1).f0).toList) == (((rd_T88 l1 x13_1).f0).toList)) || (!((((rd_T88 l0 x13_1).f1).toList) == (((rd_T88 l1 x13_1).f1).toList)))) = false := by simpa using c8
        clear c8
        have H' := Aside0.mk H
        clear H
        have p404 : 0 ≤ (x13_1 : Int) := of_decide_eq_true (by with_reducible assumption)
        have q404 : x13_1 < (l0.length : Int) := of_decide_eq_true (by with_reducible assumption)
        obtain ⟨ad404, e404, hx404_0, hx404_1⟩ := at_T88 HR0.out x13_1 p404 q404
        cases e404
        replace p404 := eq_true p404
        replace q404 := eq_true q404
        have p405 : 0 ≤ (x13_1 : Int) := of_decide_eq_true (by with_reducible assumption)
        have q405 : x13_1 < (l1.length : Int) := of_decide_eq_true (by with_reducible assumption)
        obtain ⟨ad405, e405, hx405_0, hx405_1⟩ := at_T88 HR1.out x13_1 p405 q405
        cases e405
        replace p405 := eq_true p405
        replace q405 := eq_true q405
        go_wp2
        repeat (go_quiet (fail); try go_wp2)
        go_roundg k1
        case measure => have := HK1.out; omega
        case rel => exact ⟨(wrap64 (x13_1 + 1)), (by first | rfl | (simp; done) | (simp [*]; done)), H', ⟨by have := HK1.out; omega⟩, by repeat (first | exact Drawn0.refl _ | apply Drawn0.step)⟩
       rw [if_neg c7] at H
       exact absurd H (by simp)
      rw [if_neg c6] at H
      exact absurd H (by simp)
     rw [if_neg c5] at H
     exact absurd H (by simp)
    rw [if_neg c4] at H
    have c4b0 : decide (x13_1 < (l0.length : Int)) = false := decide_eq_false c4
    clear c4
    obtain rfl := Option.some.inj H
    go_wp2
    repeat (go_quiet (fail); try go_wp2)
    go_ret
    exact ⟨by first | rfl | (simp; done) | (simp [*]; done), by repeat (first | exact Drawn0.refl _ | apply Drawn0.step)⟩
 rw [if_neg c3] at H
 have c3b0 : ((l0.length : Int) == (l1.length : Int)) = false := beq_eq_false_iff_ne.mpr c3
 have c3b1 : ((l0.length : Int) != (l1.length : Int)) = true := bne_iff_ne.mpr c3
 have c3b2 : (l0.length == l1.length) = false := by first | simpa using c3 | (simp at c3 ⊢; omega)
 obtain rfl := Option.some.inj H
 go_enter Try.func123, Try.ntmps123
 go_wp2
 repeat (go_quiet (fail); try go_wp2)
 go_ret
 exact ⟨by first | rfl | (simp; done) | (simp [*]; done), by repeat (first | exact Drawn0.refl _ | apply Drawn0.step)⟩
end Go.Proofs.Yticgekgojgkbgaa.Print
end
section
namespace Go.Proofs.Yticgekgojgkbgaa.Print
open Go.RowKit Go.Proofs.YticgekgojgkbgaaV.PrintWords Go.Proofs.YticgekgojgkbgaaV.PrintLast Go.Proofs.YticgekgojgkbgaaV.PrintMore
attribute [local go_sem] max2_int min2_int max_two min_two max_three min_three max_four min_four
set_option linter.unusedVariables false
set_option linter.unusedSimpArgs false
set_option maxHeartbeats 8000000
set_option maxRecDepth 100000
def impl_labelsAt.l0 : Nat → List (S88) → List (S43) → Int → Int → Option (Int)
 | 0, _, _, _, _ => none
 | k + 1, x1, x7, x8, x9 => if x9 < x8 then (if 0 ≤ x9 then (if x9 < (x7.length : Int) then ((impl_SameSet.f k ((rd_T43 x7 x9).f0) x1).bind fun t408 => (if t408 = true then (some x9) else (impl_labelsAt.l0 k x1 x7 x8 (wrap64 (x9 + 1))))) else (none)) else (none)) else (some (-1))
def impl_labelsAt.f (k : Nat) (l0 : List (S43)) (l1 : List (S88)) : Option (Int) := impl_labelsAt.l0 k l1 l0 (l0.length : Int) 0
theorem impl_labelsAt.mono_l : ∀ k, (∀ y0 y1 y2 y3, LeO (impl_labelsAt.l0 k y0 y1 y2 y3) (impl_labelsAt.l0 (k + 1) y0 y1 y2 y3))
 | 0 => fun _ _ _ _ r h => by simp [impl_labelsAt.l0] at h
 | k + 1 => by
  have ih0 := impl_labelsAt.mono_l k
  intro y0 y1 y2 y3
  unfold impl_labelsAt.l0
  repeat' first
  | (with_reducible exact ih0 _ _ _ _)
  | (with_reducible exact impl_SameSet.mono _ _ _)
  | (with_reducible exact LeO.refl _)
  | (with_reducible exact LeO.none _)
  | (with_reducible refine LeO.ite ?_ ?_)
  | (with_reducible refine LeO.bind ?_ (fun _ => ?_))
  | exact ih0 _ _ _ _
  | exact impl_SameSet.mono _ _ _
theorem impl_labelsAt.mono : ∀ a0 a1 k, LeO (impl_labelsAt.f k a0 a1) (impl_labelsAt.f (k + 1) a0 a1) := by
 intro a0 a1 k
 have ih0 := impl_labelsAt.mono_l k
 unfold impl_labelsAt.f
 repeat' first | (with_reducible first | exact ih0 _ _ _ _ | exact impl_SameSet.mono _ _ _ | exact LeO.refl _ | exact LeO.none _ | refine LeO.ite ?_ ?_ | refine LeO.bind ?_ (fun _ => ?_)) | exact ih0 _ _ _ _ | exact impl_SameSet.mono _ _ _
theorem impl_labelsAt.calls (k : Nat) (A0 : Option Addr) (c0 : Nat) (l0 : List (S43)) (A1 : Option Addr) (c1 : Nat) (l1 : List (S88)) (r : Int) (w : World) (hr0 : Kd.C k43 w A0 l0.length l0) (hc0 : l0.length ≤ c0) (hr1 : Kd.C k88 w A1 l1.length l1) (hc1 : l1.length ≤ c1) (h : impl_labelsAt.f k l0 l1 = some r) :
  Calls Try.prog 106 #[.slice A0 l0.length c0, .slice A1 l1.length c1] w fun e w' => e = .returned (.int .i64 r) ∧ Below w.heap.size w w' := by
 have hu43 := Try.underlying43
 have HR0 := Aside0.mk hr0
 have HC0 := Aside0.mk hc0
 clear hr0 hc0
 have HR1 := Aside0.mk hr1
 have HC1 := Aside0.mk hc1
 clear hr1 hc1
 have HB := Aside0.mk (Below.refl w.heap.size w)
 have H : (impl_labelsAt.l0 k l1 l0 (l0.length : Int) 0) = some r := h
 clear h
 have H' := Aside0.mk H
 clear H
 go_enter Try.func106, Try.ntmps106
 go_wp2
 go_loopg [9] k (fun kq v9 w' => ∃ (x9_1 : Int), v9 = .int .i64 x9_1 ∧ Aside0 (impl_labelsAt.l0 kq l1 l0 (l0.length : Int) x9_1 = some r) ∧ Aside0 (kq ≤ k) ∧ Aside0 (Below w.heap.size w w'))
 case atStart => exact ⟨(0), (by first | rfl | (simp; done) | (simp [*]; done)), H', ⟨Nat.le_refl _⟩, ⟨by exact hs_ HB.out⟩⟩
 case round =>
  clear H'
  try clear c1
  try clear p2
  obtain ⟨x9_1, rfl, HA, HK1, HB⟩ := hrel
  cases gk with
  | zero => exact absurd HA.out (by simp [impl_labelsAt.l0])
  | succ k1 =>
   have H := HA.out
   clear HA
   simp only [impl_labelsAt.l0] at H
   by_cases c3 : x9_1 < (l0.length : Int)
   ·
    rw [if_pos c3] at H
    have c3b0 := decide_eq_true c3
    clear c3
    by_cases c4 : 0 ≤ x9_1
    ·
     rw [if_pos c4] at H
     have c4b0 := decide_eq_true c4
     clear c4
     by_cases c5 : x9_1 < (l0.length : Int)
     ·
      rw [if_pos c5] at H
      have c5b0 := decide_eq_true c5
      clear c5
      replace H := Option.bind_eq_some_iff.mp H
      obtain ⟨t408, A60, H⟩ := H
      have A6 := Aside0.mk A60
      clear A60
      by_cases c7 : t408 = true
      ·
       subst c7
       rw [if_pos rfl] at H
       obtain rfl := Option.some.inj H
       have p406 : 0 ≤ (x9_1 : Int) := of_decide_eq_true (by with_reducible assumption)
       have q406 : x9_1 < (l0.length : Int) := of_decide_eq_true (by with_reducible assumption)
       obtain ⟨ad406, A406_0, c406_0, e406, hx406_0, hx406_1, hx406_2, hx406_3, hl406_0, hi406_0⟩ := at_T43 HR0.out x9_1 p406 q406
       cases e406
       replace hx406_0 := cl_ HB.out hx406_0
       replace hx406_1 := cl_ HB.out hx406_1
       replace hx406_2 := cl_ HB.out hx406_2
       replace hx406_3 := cl_ HB.out hx406_3
       have HR406_0 := Aside0.mk hi406_0
       have HC406_0 := Aside0.mk hl406_0
       clear hi406_0 hl406_0
       replace p406 := eq_true p406
       replace q406 := eq_true q406
       go_wp2_with (first | ((with_reducible refine gd_ 6 rfl ?_); refine bv_ 6 #[.slice none 0 0, .int .i64 0, .int .i64 0, .string (⟨#[]⟩ : ByteArray)] 43 ?_; intro gb407 hg w8 hbox hb; have BK407 := Aside0.mk (hbox); have GW407 := Aside0.mk ((gw_ hg (hs_ HB.out))); replace HB := st_ HB hb; have GE407 := Ge_.mk GW407.out; clear hb hbox hg; obtain ⟨z9_0, z9_1, z9_2, z9_3, y9_0, y9_1, y9_2, y9_3⟩ := bc4_ BK407.out) | ((with_reducible refine gate_callee (f := 123) rfl ?_); refine gl_ (some 17) Try.func123 #[.slice A406_0 ((rd_T43 l0 x9_1).f0).length c406_0, .slice A1 l1.length c1] ?_; (with_reducible refine (impl_SameSet.calls k1 _ _ ((rd_T43 l0 x9_1).f0) _ _ l1 true _ ?side1 ?side2 ?side3 ?side4 A6.out).mono ?_); (case side1 => exact Kd.C_below HR406_0.out (hs_ HB.out)); (case side2 => exact HC406_0.out); (case side3 => exact Kd.C_below HR1.out (hs_ HB.out)); (case side4 => exact HC1.out); rintro e w' ⟨rfl, ⟨nd, rfl⟩⟩; refine ⟨_, rfl, ?_⟩))
       go_ret
       exact an_ (by exact hs_ HB.out)
      replace c7 := Bool.eq_false_iff.mpr c7
      subst c7
      rw [if_neg (show ¬ (false = true) by decide)] at H
      have H' := Aside0.mk H
      clear H
      have p406 : 0 ≤ (x9_1 : Int) := of_decide_eq_true (by with_reducible assumption)
      have q406 : x9_1 < (l0.length : Int) := of_decide_eq_true (by with_reducible assumption)
      obtain ⟨ad406, A406_0, c406_0, e406, hx406_0, hx406_1, hx406_2, hx406_3, hl406_0, hi406_0⟩ := at_T43 HR0.out x9_1 p406 q406
      cases e406
      replace hx406_0 := cl_ HB.out hx406_0
      replace hx406_1 := cl_ HB.out hx406_1
      replace hx406_2 := cl_ HB.out hx406_2
      replace hx406_3 := cl_ HB.out hx406_3
      have HR406_0 := Aside0.mk hi406_0
      have HC406_0 := Aside0.mk hl406_0
      clear hi406_0 hl406_0
      replace p406 := eq_true p406
      replace q406 := eq_true q406
      go_wp2_with (first | ((with_reducible refine gd_ 6 rfl ?_); refine bv_ 6 #[.slice none 0 0, .int .i64 0, .int .i64 0, .string (⟨#[]⟩ : ByteArray)] 43 ?_; intro gb407 hg w10 hbox hb; have BK407 := Aside0.mk (hbox); have GW407 := Aside0.mk ((gw_ hg (hs_ HB.out))); replace HB := st_ HB hb; have GE407 := Ge_.mk GW407.out; clear hb hbox hg; obtain ⟨z11_0, z11_1, z11_2, z11_3, y11_0, y11_1, y11_2, y11_3⟩ := bc4_ BK407.out) | ((with_reducible refine gate_callee (f := 123) rfl ?_); refine gl_ (some 17) Try.func123 #[.slice A406_0 ((rd_T43 l0 x9_1).f0).length c406_0, .slice A1 l1.length c1] ?_; (with_reducible refine (impl_SameSet.calls k1 _ _ ((rd_T43 l0 x9_1).f0) _ _ l1 false _ ?side1 ?side2 ?side3 ?side4 A6.out).mono ?_); (case side1 => exact Kd.C_below HR406_0.out (hs_ HB.out)); (case side2 => exact HC406_0.out); (case side3 => exact Kd.C_below HR1.out (hs_ HB.out)); (case side4 => exact HC1.out); rintro e w' ⟨rfl, ⟨nd, rfl⟩⟩; refine ⟨_, rfl, ?_⟩))
      go_roundg k1
      case measure => have := HK1.out; omega
      case rel => exact ⟨(wrap64 (x9_1 + 1)), (by first | rfl | (simp; done) | (simp [*]; done)), H', ⟨by have := HK1.out; omega⟩, ⟨by exact hs_ HB.out⟩⟩
     rw [if_neg c5] at H
     exact absurd H (by simp)
    rw [if_neg c4] at H
    exact absurd H (by simp)
   rw [if_neg c3] at H
   have c3b0 : decide (x9_1 < (l0.length : Int)) = false := decide_eq_false c3
   clear c3
   obtain rfl := Option.some.inj H
   go_wp2
   go_ret
   exact an_ (by exact hs_ HB.out)
def impl_InChain.f (k : Nat) (a0_0 : Int) (l0_1 : List (S43)) (l1 : List (S88)) : Option (Int) := (impl_labelsAt.f k l0_1 l1).bind fun t501 => (some t501)
theorem impl_InChain.mono : ∀ a0 a1 a2 k, LeO (impl_InChain.f k a0 a1 a2) (impl_InChain.f (k + 1) a0 a1 a2) := by
 intro a0 a1 a2 k
 unfold impl_InChain.f
 repeat' first | (with_reducible first | exact impl_labelsAt.mono _ _ _ | exact LeO.refl _ | exact LeO.none _ | refine LeO.ite ?_ ?_ | refine LeO.bind ?_ (fun _ => ?_)) | exact impl_labelsAt.mono _ _ _
theorem impl_InChain.calls (k : Nat) (a0_0 : Int) (A0_1 : Option Addr) (c0_1 : Nat) (l0_1 : List (S43)) (A1 : Option Addr) (c1 : Nat) (l1 : List (S88)) (r : Int) (w : World) (hr0_1 : Kd.C k43 w A0_1 l0_1.length l0_1) (hc0_1 : l0_1.length ≤ c0_1) (hr1 : Kd.C k88 w A1 l1.length l1) (hc1 : l1.length ≤ c1) (h : impl_InChain.f k a0_0 l0_1 l1 = some r) :
  Calls Try.prog 79 #[.agg #[.int .i64 a0_0, .slice A0_1 l0_1.length c0_1], .slice A1 l1.length c1] w fun e w' => e = .returned (.int .i64 r) ∧ Below w.heap.size w w' := by
 have hu100 := Try.underlying100
 have HR0_1 := Aside0.mk hr0_1
 have HC0_1 := Aside0.mk hc0_1
 clear hr0_1 hc0_1
 have HR1 := Aside0.mk hr1
 have HC1 := Aside0.mk hc1
 clear hr1 hc1
 have HB := Aside0.mk (Below.refl w.heap.size w)
 have H : ((impl_labelsAt.f k l0_1 l1).bind fun t501 => (some t501)) = some r := h
 clear h
 replace H := Option.bind_eq_some_iff.mp H
 obtain ⟨t501, A30, H⟩ := H
 have A3 := Aside0.mk A30
 clear A30
 obtain rfl := Option.some.inj H
 go_enter Try.func79, Try.ntmps79
 go_wp2_with (first | ((with_reducible refine gd_ 2 rfl ?_); refine bv_ 2 #[.int .i64 a0_0, .slice A0_1 l0_1.length c0_1] 100 ?_; intro gb500 hg w4 hbox hb; have BK500 := Aside0.mk (hbox); have GW500 := Aside0.mk ((gw_ hg (hs_ HB.out))); replace HB := st_ HB hb; have GE500 := Ge_.mk GW500.out; clear hb hbox hg; obtain ⟨z5_0, z5_1, y5_0, y5_1⟩ := bc2_ BK500.out) | ((with_reducible refine gate_callee (f := 106) rfl ?_); refine gl_ (some 8) Try.func106 #[.slice A0_1 l0_1.length c0_1, .slice A1 l1.length c1] ?_; (with_reducible refine (impl_labelsAt.calls k _ _ l0_1 _ _ l1 t501 _ ?side1 ?side2 ?side3 ?side4 A3.out).mono ?_); (case side1 => exact cp_ ((Kd.C_below HR0_1.out HB.out))); (case side2 => exact HC0_1.out); (case side3 => exact cp_ ((Kd.C_below HR1.out HB.out))); (case side4 => exact HC1.out); rintro e w6 ⟨rfl, hb⟩; refine ⟨_, rfl, ?_⟩; replace BK500 := bk2_ BK500 hb; replace HB := st_ HB hb; (try clear hb); (try clear hk)))
 go_ret
 exact an_ (by exact hs_ HB.out)
def impl_Touch.f (l0_0 : List (S88)) (a0_1 : Int) (a0_2 : Int) (a0_3 : ByteArray) (l1_0 : List (S88)) (a1_1 : Int) (a1_2 : Int) (a1_3 : ByteArray) : Option (Bool) := if a0_1 ≤ a1_2 then (some (decide (a1_1 ≤ a0_2))) else (some false)
theorem impl_Touch.calls (A0_0 : Option Addr) (c0_0 : Nat) (l0_0 : List (S88)) (a0_1 : Int) (a0_2 : Int) (a0_3 : ByteArray) (A1_0 : Option Addr) (c1_0 : Nat) (l1_0 : List (S88)) (a1_1 : Int) (a1_2 : Int) (a1_3 : ByteArray) (r : Bool) (w : World) (hr0_0 : Kd.C k88 w A0_0 l0_0.length l0_0) (hc0_0 : l0_0.length ≤ c0_0) (hr1_0 : Kd.C k88 w A1_0 l1_0.length l1_0) (hc1_0 : l1_0.length ≤ c1_0) (h : impl_Touch.f l0_0 a0_1 a0_2 a0_3 l1_0 a1_1 a1_2 a1_3 = some r) :
  Calls Try.prog 126 #[.agg #[.slice A0_0 l0_0.length c0_0, .int .i64 a0_1, .int .i64 a0_2, .string a0_3], .agg #[.slice A1_0 l1_0.length c1_0, .int .i64 a1_1, .int .i64 a1_2, .string a1_3]] w fun e w' => e = .returned (.bool r) ∧ Below w.heap.size w w' := by
 have hu43 := Try.underlying43
 have HR0_0 := Aside0.mk hr0_0
 have HC0_0 := Aside0.mk hc0_0
 clear hr0_0 hc0_0
 have HR1_0 := Aside0.mk hr1_0
 have HC1_0 := Aside0.mk hc1_0
 clear hr1_0 hc1_0
 have HB := Aside0.mk (Below.refl w.heap.size w)
 have H : (if a0_1 ≤ a1_2 then (some (decide (a1_1 ≤ a0_2))) else (some false)) = some r := h
 clear h
 by_cases c3 : a0_1 ≤ a1_2
 ·
  rw [if_pos c3] at H
  have c3b0 := decide_eq_true c3
  clear c3
  obtain rfl := Option.some.inj H
  go_enter Try.func126, Try.ntmps126
  go_wp2_with (first | ((with_reducible refine gd_ 2 rfl ?_); refine bv_ 2 #[.slice A0_0 l0_0.length c0_0, .int .i64 a0_1, .int .i64 a0_2, .string a0_3] 43 ?_; intro gb850 hg w4 hbox hb; have BK850 := Aside0.mk (hbox); have GW850 := Aside0.mk ((gw_ hg (hs_ HB.out))); replace HB := st_ HB hb; have GE850 := Ge_.mk GW850.out; clear hb hbox hg) | ((with_reducible refine gd_ 3 rfl ?_); refine bv_ 3 #[.slice A1_0 l1_0.length c1_0, .int .i64 a1_1, .int .i64 a1_2, .string a1_3] 43 ?_; intro gb851 hg w5 hbox hb; have BK851 := Aside0.mk (hbox); have GW851 := Aside0.mk ((gw_ hg (hs_ HB.out))); replace HB := st_ HB hb; have GE851 := Ge_.mk GW851.out; have NB850_851 := Ne_.mk (nl_ BK850.out hg); replace BK850 := bk2_ BK850 hb; have NB851_850 := Ne_.mk (NB850_851.out.symm); clear hb hbox hg; have hnb6 := NB850_851.out; have hnc6 := NB851_850.out; obtain ⟨z7_0, z7_1, z7_2, z7_3, y7_0, y7_1, y7_2, y7_3⟩ := bc4_ BK850.out; obtain ⟨z8_0, z8_1, z8_2, z8_3, y8_0, y8_1, y8_2, y8_3⟩ := bc4_ BK851.out))
  go_ret
  exact an_ (by exact hs_ HB.out)
 rw [if_neg c3] at H
 have c3b0 : decide (a0_1 ≤ a1_2) = false := decide_eq_false c3
 clear c3
 obtain rfl := Option.some.inj H
 go_enter Try.func126, Try.ntmps126
 go_wp2_with (first | ((with_reducible refine gd_ 2 rfl ?_); refine bv_ 2 #[.slice A0_0 l0_0.length c0_0, .int .i64 a0_1, .int .i64 a0_2, .string a0_3] 43 ?_; intro gb850 hg w9 hbox hb; have BK850 := Aside0.mk (hbox); have GW850 := Aside0.mk ((gw_ hg (hs_ HB.out))); replace HB := st_ HB hb; have GE850 := Ge_.mk GW850.out; clear hb hbox hg) | ((with_reducible refine gd_ 3 rfl ?_); refine bv_ 3 #[.slice A1_0 l1_0.length c1_0, .int .i64 a1_1, .int .i64 a1_2, .string a1_3] 43 ?_; intro gb851 hg w10 hbox hb; have BK851 := Aside0.mk (hbox); have GW851 := Aside0.mk ((gw_ hg (hs_ HB.out))); replace HB := st_ HB hb; have GE851 := Ge_.mk GW851.out; have NB850_851 := Ne_.mk (nl_ BK850.out hg); replace BK850 := bk2_ BK850 hb; have NB851_850 := Ne_.mk (NB850_851.out.symm); clear hb hbox hg; have hnb11 := NB850_851.out; have hnc11 := NB851_850.out; obtain ⟨z12_0, z12_1, z12_2, z12_3, y12_0, y12_1, y12_2, y12_3⟩ := bc4_ BK850.out; obtain ⟨z13_0, z13_1, z13_2, z13_3, y13_0, y13_1, y13_2, y13_3⟩ := bc4_ BK851.out))
 go_ret
 exact an_ (by exact hs_ HB.out)
def impl_Merge.f (l0_0 : List (S88)) (a0_1 : Int) (a0_2 : Int) (a0_3 : ByteArray) (l1_0 : List (S88)) (a1_1 : Int) (a1_2 : Int) (a1_3 : ByteArray) : Option ((List (S88)) × Int × Int × ByteArray) := (impl_copyAlarm.f l1_0 a1_1 a1_2 a1_3).bind fun bt855 => ((impl_Touch.f l0_0 a0_1 a0_2 a0_3 l1_0 a1_1 a1_2 a1_3).bind fun t862 => (if t862 = true then (some (bt855.1, mn a0_1 a1_1, bt855.2.2.1, bt855.2.2.2)) else (some (bt855.1, bt855.2.1, bt855.2.2.1, bt855.2.2.2))))
theorem impl_Merge.calls (A0_0 : Option Addr) (c0_0 : Nat) (l0_0 : List (S88)) (a0_1 : Int) (a0_2 : Int) (a0_3 : ByteArray) (A1_0 : Option Addr) (c1_0 : Nat) (l1_0 : List (S88)) (a1_1 : Int) (a1_2 : Int) (a1_3 : ByteArray) (r1 : List (S88)) (r2 : Int) (r3 : Int) (r4 : ByteArray) (w : World) (hr0_0 : Kd.C k88 w A0_0 l0_0.length l0_0) (hc0_0 : l0_0.length ≤ c0_0) (hr1_0 : Kd.C k88 w A1_0 l1_0.length l1_0) (hc1_0 : l1_0.length ≤ c1_0) (h : impl_Merge.f l0_0 a0_1 a0_2 a0_3 l1_0 a1_1 a1_2 a1_3 = some (r1, r2, r3, r4)) :
  Calls Try.prog 111 #[.agg #[.slice A0_0 l0_0.length c0_0, .int .i64 a0_1, .int .i64 a0_2, .string a0_3], .agg #[.slice A1_0 l1_0.length c1_0, .int .i64 a1_1, .int .i64 a1_2, .string a1_3]] w fun e w' => ∃ v0_ : Value, e = .returned (.agg #[v0_, .int .i64 r2, .int .i64 r3, .string r4]) ∧ Kd.R k88 88 w' w.heap.size (fun _ => True) v0_ r1 ∧ Below w.heap.size w w' := by
 have hu43 := Try.underlying43
 have HR0_0 := Aside0.mk hr0_0
 have HC0_0 := Aside0.mk hc0_0
 clear hr0_0 hc0_0
 have HR1_0 := Aside0.mk hr1_0
 have HC1_0 := Aside0.mk hc1_0
 clear hr1_0 hc1_0
 have HB := Aside0.mk (Below.refl w.heap.size w)
 have H : ((impl_copyAlarm.f l1_0 a1_1 a1_2 a1_3).bind fun bt855 => ((impl_Touch.f l0_0 a0_1 a0_2 a0_3 l1_0 a1_1 a1_2 a1_3).bind fun t862 => (if t862 = true then (some (bt855.1, mn a0_1 a1_1, bt855.2.2.1, bt855.2.2.2)) else (some (bt855.1, bt855.2.1, bt855.2.2.1, bt855.2.2.2))))) = some (r1, r2, r3, r4) := h
 clear h
 replace H := Option.bind_eq_some_iff.mp H
 obtain ⟨⟨t855, t858, t859, t860⟩, A30, H⟩ := H
 have A3 := Aside0.mk A30
 clear A30
 replace H := Option.bind_eq_some_iff.mp H
 obtain ⟨t862, A40, H⟩ := H
 have A4 := Aside0.mk A40
 clear A40
 by_cases c5 : t862 = true
 ·
  subst c5
  rw [if_pos rfl] at H
  obtain ⟨ji6, hji6⟩ : ∃ j_ : Int, (mn a0_1 a1_1) = j_ := ⟨_, rfl⟩
  replace H : (some (t855, ji6, t859, t860)) = some (r1, r2, r3, r4) := by first | (rw [hji6] at H; exact H) | (simp only [hji6] at H ⊢; exact H)
  (try rw [hji6] at A3)
  (try rw [hji6] at A4)
  have hji6_ : (if a1_1 < a0_1 then a1_1 else a0_1) = ji6 := hji6
  simp only [Option.some.injEq, Prod.mk.injEq] at H
  obtain ⟨rfl, rfl, rfl, rfl⟩ := H
  go_enter Try.func111, Try.ntmps111
  go_wp2_with (first | ((with_reducible refine gd_ 2 rfl ?_); refine bv_ 2 #[.slice A0_0 l0_0.length c0_0, .int .i64 a0_1, .int .i64 a0_2, .string a0_3] 43 ?_; intro gb852 hg w7 hbox hb; have BK852 := Aside0.mk (hbox); have GW852 := Aside0.mk ((gw_ hg (hs_ HB.out))); replace HB := st_ HB hb; have GE852 := Ge_.mk GW852.out; clear hb hbox hg) | ((with_reducible refine gd_ 3 rfl ?_); refine bv_ 3 #[.slice A1_0 l1_0.length c1_0, .int .i64 a1_1, .int .i64 a1_2, .string a1_3] 43 ?_; intro gb853 hg w8 hbox hb; have BK853 := Aside0.mk (hbox); have GW853 := Aside0.mk ((gw_ hg (hs_ HB.out))); replace HB := st_ HB hb; have GE853 := Ge_.mk GW853.out; have NB852_853 := Ne_.mk (nl_ BK852.out hg); replace BK852 := bk2_ BK852 hb; have NB853_852 := Ne_.mk (NB852_853.out.symm); clear hb hbox hg) | ((with_reducible refine gd_ 4 rfl ?_); refine bv_ 4 #[.slice none 0 0, .int .i64 0, .int .i64 0, .string (⟨#[]⟩ : ByteArray)] 43 ?_; intro gb854 hg w9 hbox hb; have BK854 := Aside0.mk (hbox); have GW854 := Aside0.mk ((gw_ hg (hs_ HB.out))); replace HB := st_ HB hb; have GE854 := Ge_.mk GW854.out; have NB852_854 := Ne_.mk (nl_ BK852.out hg); replace BK852 := bk2_ BK852 hb; have NB854_852 := Ne_.mk (NB852_854.out.symm); have NB853_854 := Ne_.mk (nl_ BK853.out hg); replace BK853 := bk2_ BK853 hb; have NB854_853 := Ne_.mk (NB853_854.out.symm); clear hb hbox hg; have hnb10 := NB853_852.out; have hnc10 := NB852_853.out; have hnb11 := NB853_854.out; have hnc11 := NB854_853.out; obtain ⟨z12_0, z12_1, z12_2, z12_3, y12_0, y12_1, y12_2, y12_3⟩ := bc4_ BK853.out) | ((with_reducible refine gate_callee (f := 80) rfl ?_); refine gl_ (some 7) Try.func80 #[.agg #[.slice A1_0 l1_0.length c1_0, .int .i64 a1_1, .int .i64 a1_2, .string a1_3]] ?_; (with_reducible refine (impl_copyAlarm.calls _ _ l1_0 a1_1 a1_2 a1_3 t855 t858 t859 t860 _ ?side1 ?side2 A3.out).mono ?_); (case side1 => exact cp_ ((Kd.C_below HR1_0.out HB.out))); (case side2 => exact HC1_0.out); rintro e w13 ⟨v856, rfl, ho0, hb⟩; refine ⟨_, rfl, ?_⟩; have HO857 := Aside0.mk (Kd.R_lower ho0 (below_size (hs_ HB.out))); replace BK852 := bk2_ BK852 hb; replace BK853 := bk2_ BK853 hb; replace BK854 := bk2_ BK854 hb; replace HB := st_ HB hb; (try clear hb); (try clear hk); (try clear ho0)) | ((with_reducible refine gd_ 5 rfl ?_); refine bv_ 5 #[.slice none 0 0, .int .i64 0, .int .i64 0, .string (⟨#[]⟩ : ByteArray)] 43 ?_; intro gb861 hg w14 hbox hb; replace HO857 := Aside0.mk (Kd.R_below (rp_ HO857.out) hb); have BK861 := Aside0.mk (hbox); have GW861 := Aside0.mk ((gw_ hg (hs_ HB.out))); replace HB := st_ HB hb; have GE861 := Ge_.mk GW861.out; have NB852_861 := Ne_.mk (nl_ BK852.out hg); replace BK852 := bk2_ BK852 hb; have NB861_852 := Ne_.mk (NB852_861.out.symm); have NB853_861 := Ne_.mk (nl_ BK853.out hg); replace BK853 := bk2_ BK853 hb; have NB861_853 := Ne_.mk (NB853_861.out.symm); have NB854_861 := Ne_.mk (nl_ BK854.out hg); replace BK854 := bk2_ BK854 hb; have NB861_854 := Ne_.mk (NB854_861.out.symm); clear hb hbox hg; obtain ⟨Ao15, co15, eo15⟩ := Kd.R_slice HO857.out; subst eo15; have hnb16 := NB861_852.out; have hnc16 := NB852_861.out; have hnb17 := NB861_853.out; have hnc17 := NB853_861.out; have hnb18 := NB861_854.out; have hnc18 := NB854_861.out; obtain ⟨z19_0, z19_1, z19_2, z19_3, y19_0, y19_1, y19_2, y19_3⟩ := bc4_ BK861.out; have hnb20 := NB852_854.out; have hnc20 := NB854_852.out; obtain ⟨z21_0, z21_1, z21_2, z21_3, y21_0, y21_1, y21_2, y21_3⟩ := bc4_ BK852.out; obtain ⟨z22_0, z22_1, z22_2, z22_3, y22_0, y22_1, y22_2, y22_3⟩ := bc4_ BK853.out) | ((with_reducible refine gate_callee (f := 126) rfl ?_); refine gl_ (some 10) Try.func126 #[.agg #[.slice A0_0 l0_0.length c0_0, .int .i64 a0_1, .int .i64 a0_2, .string a0_3], .agg #[.slice A1_0 l1_0.length c1_0, .int .i64 a1_1, .int .i64 a1_2, .string a1_3]] ?_; (with_reducible refine (impl_Touch.calls _ _ l0_0 a0_1 a0_2 a0_3 _ _ l1_0 a1_1 a1_2 a1_3 true _ ?side1 ?side2 ?side3 ?side4 A4.out).mono ?_); (case side1 => exact Kd.C_below HR0_0.out (hs_ HB.out)); (case side2 => exact HC0_0.out); (case side3 => exact Kd.C_below HR1_0.out (hs_ HB.out)); (case side4 => exact HC1_0.out); rintro e w23 ⟨rfl, hb⟩; refine ⟨_, rfl, ?_⟩; replace HO857 := Aside0.mk (Kd.R_below (by (with_reducible repeat (first | apply Kd.R_alloc | apply Kd.R_drewN | apply Kd.R_drew)); exact (Kd.R_mono (rf_ gb861 (Kd.R_types HO857.out BK861.out (by decide)) (fun _ hk => hk.2)) (fun _ h_ => h_.1))) hb); replace BK852 := bk2_ BK852 hb; replace BK853 := bk2_ BK853 hb; replace BK854 := bk2_ BK854 hb; replace BK861 := Aside0.mk (blk_below (g := gb861) (o := .cells #[.slice Ao15 t855.length co15, .int .i64 t858, .int .i64 t859, .string t860] 43 (0, 0)) (bp_ BK861.out) hb); replace HB := st_ HB hb; (try clear hb); (try clear hk); obtain ⟨z24_0, z24_1, z24_2, z24_3, y24_0, y24_1, y24_2, y24_3⟩ := bc4_ BK852.out; obtain ⟨z25_0, z25_1, z25_2, z25_3, y25_0, y25_1, y25_2, y25_3⟩ := bc4_ BK853.out; obtain ⟨z26_0, z26_1, z26_2, z26_3, y26_0, y26_1, y26_2, y26_3⟩ := bc4_ BK861.out; obtain ⟨z27_0, z27_1, z27_2, z27_3, y27_0, y27_1, y27_2, y27_3⟩ := bc4_ BK854.out))
  refine bodyPost_ret (results_cell_row rfl _ _ gb854 43 #[.slice Ao15 t855.length co15, .int .i64 ji6, .int .i64 t859, .string t860] (0, 0) _ rfl (bp_ BK854.out) Try.underlying43 rfl (by kernel_rfl)) rfl ?_
  exact ⟨_, by first | rfl | (simp [errW_none, errW_some] <;> rfl) | (simp only [← hji6]; first | rfl | (simp [errW_none, errW_some] <;> rfl)) | (simp [*, errW_none, errW_some] <;> rfl), by (with_reducible repeat (first | apply Kd.R_alloc | apply Kd.R_drewN | apply Kd.R_drew)); exact Kd.R_mono (rf_ gb854 (Kd.R_far (p := ⟨gb861, 1, none⟩) (Kd.R_types (Kd.R_types HO857.out BK861.out (by decide)) BK854.out (by decide)) (fun _ hk => hk.1.2) (.int .i64 ji6)) (fun _ hk => hk.2)) (fun _ hk => trivial), by exact hs_ HB.out⟩
 replace c5 := Bool.eq_false_iff.mpr c5
 subst c5
 rw [if_neg (show ¬ (false = true) by decide)] at H
 simp only [Option.some.injEq, Prod.mk.injEq] at H
 obtain ⟨rfl, rfl, rfl, rfl⟩ := H
 go_enter Try.func111, Try.ntmps111
 go_wp2_with (first | ((with_reducible refine gd_ 2 rfl ?_); refine bv_ 2 #[.slice A0_0 l0_0.length c0_0, .int .i64 a0_1, .int .i64 a0_2, .string a0_3] 43 ?_; intro gb852 hg w28 hbox hb; have BK852 := Aside0.mk (hbox); have GW852 := Aside0.mk ((gw_ hg (hs_ HB.out))); replace HB := st_ HB hb; have GE852 := Ge_.mk GW852.out; clear hb hbox hg) | ((with_reducible refine gd_ 3 rfl ?_); refine bv_ 3 #[.slice A1_0 l1_0.length c1_0, .int .i64 a1_1, .int .i64 a1_2, .string a1_3] 43 ?_; intro gb853 hg w29 hbox hb; have BK853 := Aside0.mk (hbox); have GW853 := Aside0.mk ((gw_ hg (hs_ HB.out))); replace HB := st_ HB hb; have GE853 := Ge_.mk GW853.out; have NB852_853 := Ne_.mk (nl_ BK852.out hg); replace BK852 := bk2_ BK852 hb; have NB853_852 := Ne_.mk (NB852_853.out.symm); clear hb hbox hg) | ((with_reducible refine gd_ 4 rfl ?_); refine bv_ 4 #[.slice none 0 0, .int .i64 0, .int .i64 0, .string (⟨#[]⟩ : ByteArray)] 43 ?_; intro gb854 hg w30 hbox hb; have BK854 := Aside0.mk (hbox); have GW854 := Aside0.mk ((gw_ hg (hs_ HB.out))); replace HB := st_ HB hb; have GE854 := Ge_.mk GW854.out; have NB852_854 := Ne_.mk (nl_ BK852.out hg); replace BK852 := bk2_ BK852 hb; have NB854_852 := Ne_.mk (NB852_854.out.symm); have NB853_854 := Ne_.mk (nl_ BK853.out hg); replace BK853 := bk2_ BK853 hb; have NB854_853 := Ne_.mk (NB853_854.out.symm); clear hb hbox hg; have hnb31 := NB853_852.out; have hnc31 := NB852_853.out; have hnb32 := NB853_854.out; have hnc32 := NB854_853.out; obtain ⟨z33_0, z33_1, z33_2, z33_3, y33_0, y33_1, y33_2, y33_3⟩ := bc4_ BK853.out) | ((with_reducible refine gate_callee (f := 80) rfl ?_); refine gl_ (some 7) Try.func80 #[.agg #[.slice A1_0 l1_0.length c1_0, .int .i64 a1_1, .int .i64 a1_2, .string a1_3]] ?_; (with_reducible refine (impl_copyAlarm.calls _ _ l1_0 a1_1 a1_2 a1_3 t855 t858 t859 t860 _ ?side1 ?side2 A3.out).mono ?_); (case side1 => exact cp_ ((Kd.C_below HR1_0.out HB.out))); (case side2 => exact HC1_0.out); rintro e w34 ⟨v856, rfl, ho0, hb⟩; refine ⟨_, rfl, ?_⟩; have HO857 := Aside0.mk (Kd.R_lower ho0 (below_size (hs_ HB.out))); replace BK852 := bk2_ BK852 hb; replace BK853 := bk2_ BK853 hb; replace BK854 := bk2_ BK854 hb; replace HB := st_ HB hb; (try clear hb); (try clear hk); (try clear ho0)) | ((with_reducible refine gd_ 5 rfl ?_); refine bv_ 5 #[.slice none 0 0, .int .i64 0, .int .i64 0, .string (⟨#[]⟩ : ByteArray)] 43 ?_; intro gb861 hg w35 hbox hb; replace HO857 := Aside0.mk (Kd.R_below (rp_ HO857.out) hb); have BK861 := Aside0.mk (hbox); have GW861 := Aside0.mk ((gw_ hg (hs_ HB.out))); replace HB := st_ HB hb; have GE861 := Ge_.mk GW861.out; have NB852_861 := Ne_.mk (nl_ BK852.out hg); replace BK852 := bk2_ BK852 hb; have NB861_852 := Ne_.mk (NB852_861.out.symm); have NB853_861 := Ne_.mk (nl_ BK853.out hg); replace BK853 := bk2_ BK853 hb; have NB861_853 := Ne_.mk (NB853_861.out.symm); have NB854_861 := Ne_.mk (nl_ BK854.out hg); replace BK854 := bk2_ BK854 hb; have NB861_854 := Ne_.mk (NB854_861.out.symm); clear hb hbox hg; obtain ⟨Ao36, co36, eo36⟩ := Kd.R_slice HO857.out; subst eo36; have hnb37 := NB861_852.out; have hnc37 := NB852_861.out; have hnb38 := NB861_853.out; have hnc38 := NB853_861.out; have hnb39 := NB861_854.out; have hnc39 := NB854_861.out; obtain ⟨z40_0, z40_1, z40_2, z40_3, y40_0, y40_1, y40_2, y40_3⟩ := bc4_ BK861.out; have hnb41 := NB852_854.out; have hnc41 := NB854_852.out; obtain ⟨z42_0, z42_1, z42_2, z42_3, y42_0, y42_1, y42_2, y42_3⟩ := bc4_ BK852.out; obtain ⟨z43_0, z43_1, z43_2, z43_3, y43_0, y43_1, y43_2, y43_3⟩ := bc4_ BK853.out) | ((with_reducible refine gate_callee (f := 126) rfl ?_); refine gl_ (some 10) Try.func126 #[.agg #[.slice A0_0 l0_0.length c0_0, .int .i64 a0_1, .int .i64 a0_2, .string a0_3], .agg #[.slice A1_0 l1_0.length c1_0, .int .i64 a1_1, .int .i64 a1_2, .string a1_3]] ?_; (with_reducible refine (impl_Touch.calls _ _ l0_0 a0_1 a0_2 a0_3 _ _ l1_0 a1_1 a1_2 a1_3 false _ ?side1 ?side2 ?side3 ?side4 A4.out).mono ?_); (case side1 => exact Kd.C_below HR0_0.out (hs_ HB.out)); (case side2 => exact HC0_0.out); (case side3 => exact Kd.C_below HR1_0.out (hs_ HB.out)); (case side4 => exact HC1_0.out); rintro e w44 ⟨rfl, hb⟩; refine ⟨_, rfl, ?_⟩; replace HO857 := Aside0.mk (Kd.R_below (by (with_reducible repeat (first | apply Kd.R_alloc | apply Kd.R_drewN | apply Kd.R_drew)); exact (Kd.R_mono (rf_ gb861 (Kd.R_types HO857.out BK861.out (by decide)) (fun _ hk => hk.2)) (fun _ h_ => h_.1))) hb); replace BK852 := bk2_ BK852 hb; replace BK853 := bk2_ BK853 hb; replace BK854 := bk2_ BK854 hb; replace BK861 := Aside0.mk (blk_below (g := gb861) (o := .cells #[.slice Ao36 t855.length co36, .int .i64 t858, .int .i64 t859, .string t860] 43 (0, 0)) (bp_ BK861.out) hb); replace HB := st_ HB hb; (try clear hb); (try clear hk); obtain ⟨z45_0, z45_1, z45_2, z45_3, y45_0, y45_1, y45_2, y45_3⟩ := bc4_ BK861.out; obtain ⟨z46_0, z46_1, z46_2, z46_3, y46_0, y46_1, y46_2, y46_3⟩ := bc4_ BK854.out))
 refine bodyPost_ret (results_cell_row rfl _ _ gb854 43 #[.slice Ao36 t855.length co36, .int .i64 t858, .int .i64 t859, .string t860] (0, 0) _ rfl (bp_ BK854.out) Try.underlying43 rfl (by kernel_rfl)) rfl ?_
 exact ⟨_, by first | rfl | (simp [errW_none, errW_some] <;> rfl) | (simp [*, errW_none, errW_some] <;> rfl), by (with_reducible repeat (first | apply Kd.R_alloc | apply Kd.R_drewN | apply Kd.R_drew)); exact Kd.R_mono (rf_ gb854 (Kd.R_types HO857.out BK854.out (by decide)) (fun _ hk => hk.2)) (fun _ hk => trivial), by exact hs_ HB.out⟩
def impl_PutChain.f (k : Nat) (a0_0 : Int) (l0_1 : List (S43)) (l1_0 : List (S88)) (a1_1 : Int) (a1_2 : Int) (a1_3 : ByteArray) : Option (Int × (List (S43)) × Bool) := (impl_copyChain.f k a0_0 l0_1).bind fun bt866 => ((impl_InChain.f k a0_0 l0_1 l1_0).bind fun t871 => (if t871 ≥ 0 then (if 0 ≤ t871 then (if t871 < (l0_1.length : Int) then ((impl_Merge.f ((rd_T43 l0_1 t871).f0) ((rd_T43 l0_1 t871).f1) ((rd_T43 l0_1 t871).f2) ((rd_T43 l0_1 t871).f3) l1_0 a1_1 a1_2 a1_3).bind fun bt873 => (if t871 < (bt866.2.length : Int) then (some (bt866.1, (bt866.2.set (t871 : Int).toNat (⟨bt873.1, bt873.2.1, bt873.2.2.1, bt873.2.2.2⟩ : S43)), false)) else (none))) else (none)) else (none)) else ((impl_copyAlarm.f l1_0 a1_1 a1_2 a1_3).bind fun bt880 => (if bt866.2.length < 2513169434916 then (some (bt866.1, (bt866.2 ++ [(⟨bt880.1, bt880.2.1, bt880.2.2.1, bt880.2.2.2⟩ : S43)]), true)) else (none)))))
theorem impl_PutChain.mono : ∀ a0 a1 a2 a3 a4 a5 k, LeO (impl_PutChain.f k a0 a1 a2 a3 a4 a5) (impl_PutChain.f (k + 1) a0 a1 a2 a3 a4 a5) := by
 intro a0 a1 a2 a3 a4 a5 k
 unfold impl_PutChain.f
 repeat' first | (with_reducible first | exact impl_InChain.mono _ _ _ _ | exact impl_copyChain.mono _ _ _ | exact LeO.refl _ | exact LeO.none _ | refine LeO.ite ?_ ?_ | refine LeO.bind ?_ (fun _ => ?_)) | exact impl_InChain.mono _ _ _ _ | exact impl_copyChain.mono _ _ _
def impl_PutChain.T4 : Bool × List (List Nat × List Nat) := (true, [([], []), ([0], [0]), ([], []), ([], []), ([3], [3]), ([], []), ([4, 5], [4, 5]), ([6], [6]), ([], []), ([7, 8], [7, 8]), ([1, 2, 0, 1, 2, 3, 4, 5, 6, 7, 8, 9], [1, 2]), ([10, 9, 9, 0, 1, 2, 3, 4, 5, 6, 7, 8, 9], [9, 10])])
def impl_PutChain.B4 : List Nat := [0, 1, 0, 0, 8, 0, 56, 120, 0, 504, 1023, 2047]
theorem impl_PutChain.tab4 : rtab .any (opsOf Try.f87 4) = impl_PutChain.T4 := by kernel_rfl
theorem impl_PutChain.bits4 : waitsOk impl_PutChain.T4.2 impl_PutChain.B4 = true := by kernel_rfl
def impl_PutChain.T6 : Bool × List (List Nat × List Nat) := (true, [([], []), ([0], [0]), ([], []), ([2], [2]), ([3], [3]), ([1, 4, 3], [1, 4]), ([0, 1, 2, 3, 4, 5], []), ([6, 5, 5, 0, 1, 2, 3, 4, 5], [5, 6])])
def impl_PutChain.B6 : List Nat := [0, 1, 0, 4, 12, 31, 63, 127]
theorem impl_PutChain.tab6 : rtab .any (opsOf Try.f87 6) = impl_PutChain.T6 := by kernel_rfl
theorem impl_PutChain.bits6 : waitsOk impl_PutChain.T6.2 impl_PutChain.B6 = true := by kernel_rfl
theorem impl_PutChain.calls (k : Nat) (a0_0 : Int) (A0_1 : Option Addr) (c0_1 : Nat) (l0_1 : List (S43)) (A1_0 : Option Addr) (c1_0 : Nat) (l1_0 : List (S88)) (a1_1 : Int) (a1_2 : Int) (a1_3 : ByteArray) (r1 : Int) (r2 : List (S43)) (r3 : Bool) (w : World) (hr0_1 : Kd.C k43 w A0_1 l0_1.length l0_1) (hc0_1 : l0_1.length ≤ c0_1) (hr1_0 : Kd.C k88 w A1_0 l1_0.length l1_0) (hc1_0 : l1_0.length ≤ c1_0) (h : impl_PutChain.f k a0_0 l0_1 l1_0 a1_1 a1_2 a1_3 = some (r1, r2, r3)) :
  Calls Try.prog 87 #[.agg #[.int .i64 a0_0, .slice A0_1 l0_1.length c0_1], .agg #[.slice A1_0 l1_0.length c1_0, .int .i64 a1_1, .int .i64 a1_2, .string a1_3]] w fun e w' => ∃ v1_ : Value, e = .returned (.tuple #[.agg #[.int .i64 r1, v1_], .bool r3]) ∧ Kd.S k43 43 w' w.heap.size (fun _ => True) v1_ r2 ∧ Below w.heap.size w w' := by
 have hu100 := Try.underlying100
 have hu43 := Try.underlying43
 have HR0_1 := Aside0.mk hr0_1
 have HC0_1 := Aside0.mk hc0_1
 clear hr0_1 hc0_1
 have HR1_0 := Aside0.mk hr1_0
 have HC1_0 := Aside0.mk hc1_0
 clear hr1_0 hc1_0
 have HB := Aside0.mk (Below.refl w.heap.size w)
 have H : ((impl_copyChain.f k a0_0 l0_1).bind fun bt866 => ((impl_InChain.f k a0_0 l0_1 l1_0).bind fun t871 => (if t871 ≥ 0 then (if 0 ≤ t871 then (if t871 < (l0_1.length : Int) then ((impl_Merge.f ((rd_T43 l0_1 t871).f0) ((rd_T43 l0_1 t871).f1) ((rd_T43 l0_1 t871).f2) ((rd_T43 l0_1 t871).f3) l1_0 a1_1 a1_2 a1_3).bind fun bt873 => (if t871 < (bt866.2.length : Int) then (some (bt866.1, (bt866.2.set (t871 : Int).toNat (⟨bt873.1, bt873.2.1, bt873.2.2.1, bt873.2.2.2⟩ : S43)), false)) else (none))) else (none)) else (none)) else ((impl_copyAlarm.f l1_0 a1_1 a1_2 a1_3).bind fun bt880 => (if bt866.2.length < 2513169434916 then (some (bt866.1, (bt866.2 ++ [(⟨bt880.1, bt880.2.1, bt880.2.2.1, bt880.2.2.2⟩ : S43)]), true)) else (none)))))) = some (r1, r2, r3) := h
 clear h
 replace H := Option.bind_eq_some_iff.mp H
 obtain ⟨⟨t866, t867⟩, A30, H⟩ := H
 have A3 := Aside0.mk A30
 clear A30
 replace H := Option.bind_eq_some_iff.mp H
 obtain ⟨t871, A40, H⟩ := H
 have A4 := Aside0.mk A40
 clear A40
 by_cases c5 : t871 ≥ 0
 ·
  rw [if_pos c5] at H
  have c5b0 : decide (0 ≤ t871) = true := decide_eq_true c5
  clear c5
  by_cases c6 : 0 ≤ t871
  ·
   rw [if_pos c6] at H
   have c6b0 := decide_eq_true c6
   clear c6
   by_cases c7 : t871 < (l0_1.length : Int)
   ·
    rw [if_pos c7] at H
    have c7b0 := decide_eq_true c7
    clear c7
    replace H := Option.bind_eq_some_iff.mp H
    obtain ⟨⟨t873, t876, t877, t878⟩, A80, H⟩ := H
    have A8 := Aside0.mk A80
    clear A80
    by_cases c9 : t871 < (t867.length : Int)
    ·
     rw [if_pos c9] at H
     have c9b0 := decide_eq_true c9
     clear c9
     obtain ⟨y879, hy879⟩ : ∃ y_ : List (S43), y_ = (t867.set (t871 : Int).toNat (⟨t873, t876, t877, t878⟩ : S43)) := ⟨_, rfl⟩
     replace H : (some (t866, y879, false)) = some (r1, r2, r3) := by first | (rw [hy879]; with_reducible exact H) | (have H2_ := (Option.bind_some _ _).symm.trans H; rw [hy879]; with_reducible exact H2_) | (have H2_ := (Option.bind_some _ _).symm.trans H; with_reducible exact H2_) | with_reducible exact H | (rw [hy879]; exact H) | exact H
     have Ny879 := Aside0.mk hy879
     clear hy879
     simp only [Option.some.injEq, Prod.mk.injEq] at H
     obtain ⟨rfl, rfl, rfl⟩ := H
     go_enter Try.func87, Try.ntmps87
     try go_wp2_with (first | ((with_reducible refine gd_ 2 rfl ?_); refine bv_ 2 #[.int .i64 a0_0, .slice A0_1 l0_1.length c0_1] 100 ?_; intro gb863 hg w11 hbox hb; have BK863 := Aside0.mk (hbox); have GW863 := Aside0.mk ((gw_ hg (hs_ HB.out))); replace HB := st_ HB hb; have GE863 := Ge_.mk GW863.out; clear hb hbox hg) | ((with_reducible refine gd_ 3 rfl ?_); refine bv_ 3 #[.slice A1_0 l1_0.length c1_0, .int .i64 a1_1, .int .i64 a1_2, .string a1_3] 43 ?_; intro gb864 hg w12 hbox hb; have BK864 := Aside0.mk (hbox); have GW864 := Aside0.mk ((gw_ hg (hs_ HB.out))); replace HB := st_ HB hb; have GE864 := Ge_.mk GW864.out; have NB863_864 := Ne_.mk (nl_ BK863.out hg); replace BK863 := bk2_ BK863 hb; have NB864_863 := Ne_.mk (NB863_864.out.symm); clear hb hbox hg) | ((with_reducible refine gd_ 4 rfl ?_); refine bv_ 4 #[.int .i64 0, .slice none 0 0] 100 ?_; intro gb865 hg w13 hbox hb; have BK865 := Aside0.mk (hbox); have GW865 := Aside0.mk ((gw_ hg (hs_ HB.out))); replace HB := st_ HB hb; have GE865 := Ge_.mk GW865.out; have NB863_865 := Ne_.mk (nl_ BK863.out hg); replace BK863 := bk2_ BK863 hb; have NB865_863 := Ne_.mk (NB863_865.out.symm); have NB864_865 := Ne_.mk (nl_ BK864.out hg); replace BK864 := bk2_ BK864 hb; have NB865_864 := Ne_.mk (NB864_865.out.symm); clear hb hbox hg; have hnb14 := NB863_864.out; have hnc14 := NB864_863.out; have hnb15 := NB863_865.out; have hnc15 := NB865_863.out; obtain ⟨z16_0, z16_1, y16_0, y16_1⟩ := bc2_ BK863.out) | ((with_reducible refine gate_callee (f := 110) rfl ?_); refine gl_ (some 9) Try.func110 #[.agg #[.int .i64 a0_0, .slice A0_1 l0_1.length c0_1]] ?_; (with_reducible refine (impl_copyChain.calls k a0_0 _ _ l0_1 t866 t867 _ ?side1 ?side2 A3.out).mono ?_); (case side1 => exact cp_ ((Kd.C_below HR0_1.out HB.out))); (case side2 => exact HC0_1.out); rintro e w17 ⟨v868, rfl, ho0, hb⟩; refine ⟨_, rfl, ?_⟩; have HO869 := Aside0.mk (Kd.S_lower (Kd.S_newB ho0 (g := gb864) (o := .cells #[.slice A1_0 l1_0.length c1_0, .int .i64 a1_1, .int .i64 a1_2, .string a1_3] 43 (0, 0)) (pb_ BK864.out)) (below_size (hs_ HB.out))); replace BK863 := bk2_ BK863 hb; replace BK864 := bk2_ BK864 hb; replace BK865 := bk2_ BK865 hb; replace HB := st_ HB hb; (try clear hb); (try clear hk); (try clear ho0)) | ((with_reducible refine gd_ 6 rfl ?_); refine bv_ 6 #[.int .i64 0, .slice none 0 0] 100 ?_; intro gb870 hg w18 hbox hb; replace HO869 := Aside0.mk (Kd.S_below (sp_ HO869.out) hb); have BK870 := Aside0.mk (hbox); have GW870 := Aside0.mk ((gw_ hg (hs_ HB.out))); replace HB := st_ HB hb; have GE870 := Ge_.mk GW870.out; have NB863_870 := Ne_.mk (nl_ BK863.out hg); replace BK863 := bk2_ BK863 hb; have NB870_863 := Ne_.mk (NB863_870.out.symm); have NB864_870 := Ne_.mk (nl_ BK864.out hg); replace BK864 := bk2_ BK864 hb; have NB870_864 := Ne_.mk (NB864_870.out.symm); have NB865_870 := Ne_.mk (nl_ BK865.out hg); replace BK865 := bk2_ BK865 hb; have NB870_865 := Ne_.mk (NB865_870.out.symm); clear hb hbox hg; have hnb19 := NB870_863.out; have hnc19 := NB863_870.out; have hnb20 := NB870_864.out; have hnc20 := NB864_870.out; have hnb21 := NB870_865.out; have hnc21 := NB865_870.out; obtain ⟨z22_0, z22_1, y22_0, y22_1⟩ := bc2_ BK870.out; obtain ⟨Ao23, co23, eo23⟩ := Kd.S_slice HO869.out; subst eo23; obtain ⟨z24_0, z24_1, y24_0, y24_1⟩ := bc2_ BK863.out; have hnb25 := NB864_865.out; have hnc25 := NB865_864.out; obtain ⟨z26_0, z26_1, z26_2, z26_3, y26_0, y26_1, y26_2, y26_3⟩ := bc4_ BK864.out) | ((with_reducible refine gate_callee (f := 79) rfl ?_); refine gl_ (some 13) Try.func79 #[.agg #[.int .i64 a0_0, .slice A0_1 l0_1.length c0_1], .slice A1_0 l1_0.length c1_0] ?_; (with_reducible refine (impl_InChain.calls k a0_0 _ _ l0_1 _ _ l1_0 t871 _ ?side1 ?side2 ?side3 ?side4 A4.out).mono ?_); (case side1 => exact Kd.C_below HR0_1.out (hs_ HB.out)); (case side2 => exact HC0_1.out); (case side3 => exact Kd.C_below HR1_0.out (hs_ HB.out)); (case side4 => exact HC1_0.out); rintro e w27 ⟨rfl, hb⟩; refine ⟨_, rfl, ?_⟩; replace HO869 := Aside0.mk (Kd.S_below (by (with_reducible repeat (first | apply Kd.S_alloc | apply Kd.S_drewN | apply Kd.S_drew)); exact (Kd.S_mono (sf_ gb870 (Kd.S_types HO869.out BK870.out (by decide)) (fun _ hk => hk.2)) (fun _ h_ => h_.1))) hb); replace BK863 := bk2_ BK863 hb; replace BK864 := bk2_ BK864 hb; replace BK865 := bk2_ BK865 hb; replace BK870 := Aside0.mk (blk_below (g := gb870) (o := .cells #[.int .i64 t866, .slice Ao23 t867.length co23] 100 (0, 0)) (bp_ BK870.out) hb); replace HB := st_ HB hb; (try clear hb); (try clear hk)))
     replace HO869 := Aside0.mk (Kd.S_drew HO869.out)
     replace BK863 := Aside0.mk (blk_drew BK863.out)
     replace BK864 := Aside0.mk (blk_drew BK864.out)
     replace BK865 := Aside0.mk (blk_drew BK865.out)
     replace BK870 := Aside0.mk (blk_drew BK870.out)
     replace HB := Aside0.mk (bd_ HB.out)
     have p872 : 0 ≤ (t871 : Int) := of_decide_eq_true (by with_reducible assumption)
     have q872 : t871 < (l0_1.length : Int) := of_decide_eq_true (by with_reducible assumption)
     obtain ⟨ad872, A872_0, c872_0, e872, hx872_0, hx872_1, hx872_2, hx872_3, hl872_0, hi872_0⟩ := at_T43 HR0_1.out t871 p872 q872
     have hw872_3 := hx872_3
     have hw872_2 := hx872_2
     have hw872_1 := hx872_1
     have hw872_0 := hx872_0
     cases e872
     replace hx872_0 := cl_ HB.out hx872_0
     replace hx872_1 := cl_ HB.out hx872_1
     replace hx872_2 := cl_ HB.out hx872_2
     replace hx872_3 := cl_ HB.out hx872_3
     have HR872_0 := Aside0.mk hi872_0
     have HC872_0 := Aside0.mk hl872_0
     clear hi872_0 hl872_0
     replace p872 := eq_true p872
     replace q872 := eq_true q872
     refine start_ (n := 12) (S := fun w' => w'.cell? ⟨gb870, 0, none⟩ = some (.int .i64 t866) ∧ w'.cell? ⟨gb870, 1, none⟩ = some (.slice Ao23 t867.length co23) ∧ w'.cell? ⟨gb863, 0, none⟩ = some (.int .i64 a0_0) ∧ w'.cell? ⟨gb863, 1, none⟩ = some (.slice (some ad872) l0_1.length c0_1) ∧ w'.cell? ⟨gb864, 0, none⟩ = some (.slice A1_0 l1_0.length c1_0) ∧ w'.cell? ⟨gb864, 1, none⟩ = some (.int .i64 a1_1) ∧ w'.cell? ⟨gb864, 2, none⟩ = some (.int .i64 a1_2) ∧ w'.cell? ⟨gb864, 3, none⟩ = some (.string a1_3) ∧ w'.cell? (ad872.add ((t871).toNat * 4)) = some (.slice A872_0 ((rd_T43 l0_1 t871).f0).length c872_0) ∧ w'.cell? ⟨(ad872.add ((t871).toNat * 4)).block, (ad872.add ((t871).toNat * 4)).off + 1, none⟩ = some (.int .i64 ((rd_T43 l0_1 t871).f1)) ∧ w'.cell? ⟨(ad872.add ((t871).toNat * 4)).block, (ad872.add ((t871).toNat * 4)).off + 2, none⟩ = some (.int .i64 ((rd_T43 l0_1 t871).f2)) ∧ w'.cell? ⟨(ad872.add ((t871).toNat * 4)).block, (ad872.add ((t871).toNat * 4)).off + 3, none⟩ = some (.string ((rd_T43 l0_1 t871).f3))) (ds := [11]) #[f_,f_,f_,f_,f_,f_,f_,f_,f_,f_,f_,f_] (by kernel_rfl) rfl rfl ⟨bx_ BK870.out 0, bx_ BK870.out 1, bx_ BK863.out 0, bx_ BK863.out 1, bx_ BK864.out 0, bx_ BK864.out 1, bx_ BK864.out 2, bx_ BK864.out 3, ((HB.out.cell (World.block_lt_of_cell? w _ hw872_0)).trans hw872_0), ((HB.out.cell (World.block_lt_of_cell? w _ hw872_1)).trans hw872_1), ((HB.out.cell (World.block_lt_of_cell? w _ hw872_2)).trans hw872_2), ((HB.out.cell (World.block_lt_of_cell? w _ hw872_3)).trans hw872_3)⟩ (fun hHeld => ?_); refine with_tabW impl_PutChain.tab4 impl_PutChain.bits4 (fun HT_ HW_ => ?_)
     generalize w27.drew = w28 at HO869 BK863 BK864 BK865 BK870 HB HR872_0 hx872_0 hx872_1 hx872_2 hx872_3 hHeld ⊢
     refine pw_ 0 16 (b_ 1 11) rfl rfl HT_.out ?_
     refine pw_ 2 18 #[t_,f_,t_,f_,f_,f_,f_,f_,f_,f_,f_,f_] rfl rfl HT_.out ?_
     refine pw_ 3 19 #[t_,f_,t_,t_,f_,f_,f_,f_,f_,f_,f_,f_] rfl rfl HT_.out ?_
     refine pw_ 5 21 #[t_,f_,t_,t_,f_,t_,f_,f_,f_,f_,f_,f_] rfl rfl HT_.out ?_
     refine take_ (i := 1) (N := some 17) (v := ?_) (a' := ?_) #[t_,t_,t_,t_,f_,t_,f_,f_,f_,f_,f_,f_] rfl rfl (take_ofW HT_.out HW_.out (by kernel_rfl)) (fun _ _ _ h => h) (Or.inl ⟨by rfl, ?_⟩) hHeld ?_ ?_
     rotate_left
     ·
      rintro w' ⟨s0, s1, s2, s3, s4, s5, s6, s7, s8, s9, s10, s11⟩
      go_simp
      with_reducible rfl
     rotate_left
     ·
      simp only [fr_]
      rfl
     refine take_ (i := 4) (N := some 20) (v := ?_) (a' := ?_) #[t_,t_,t_,t_,t_,t_,f_,f_,f_,f_,f_,f_] rfl rfl (take_ofW HT_.out HW_.out (by kernel_rfl)) (fun _ _ _ h => h) (Or.inl ⟨by rfl, ?_⟩) hHeld ?_ ?_
     rotate_left
     ·
      rintro w' ⟨s0, s1, s2, s3, s4, s5, s6, s7, s8, s9, s10, s11⟩
      go_simp
      with_reducible rfl
     rotate_left
     ·
      simp only [fr_]
      rfl
     refine pw_ 6 22 (b_ 7 5) rfl rfl HT_.out ?_
     refine take_ (i := 7) (N := some 23) (v := ?_) (a' := ?_) #[t_,t_,t_,t_,t_,t_,t_,t_,f_,f_,f_,f_] rfl rfl (take_ofW HT_.out HW_.out (by kernel_rfl)) (fun _ _ _ h => h) (Or.inl ⟨by rfl, ?_⟩) hHeld ?_ ?_
     rotate_left
     ·
      rintro w' ⟨s0, s1, s2, s3, s4, s5, s6, s7, s8, s9, s10, s11⟩
      go_simp
      with_reducible rfl
     rotate_left
     ·
      simp only [fr_]
      rfl
     refine take_ (i := 8) (N := some 24) (v := ?_) (a' := ?_) #[t_,t_,t_,t_,t_,t_,t_,t_,t_,f_,f_,f_] rfl rfl (take_ofW HT_.out HW_.out (by kernel_rfl)) (fun _ _ _ h => h) (Or.inl ⟨by rfl, ?_⟩) hHeld ?_ ?_
     rotate_left
     ·
      rintro w' ⟨s0, s1, s2, s3, s4, s5, s6, s7, s8, s9, s10, s11⟩
      go_simp
      with_reducible rfl
     rotate_left
     ·
      simp only [fr_]
      rfl
     refine one_ (i := 9) (N := some 25) #[t_,t_,t_,t_,t_,t_,t_,t_,t_,t_,f_,f_] rfl rfl (one_of HT_.out (by kernel_rfl)) (by decide) (fun K hK => ?_)
     refine gs_ Try.func111 #[.agg #[.slice A872_0 ((rd_T43 l0_1 t871).f0).length c872_0, .int .i64 ((rd_T43 l0_1 t871).f1), .int .i64 ((rd_T43 l0_1 t871).f2), .string ((rd_T43 l0_1 t871).f3)], .agg #[.slice A1_0 l1_0.length c1_0, .int .i64 a1_1, .int .i64 a1_2, .string a1_3]] ?_
     with_reducible refine (impl_Merge.calls _ _ ((rd_T43 l0_1 t871).f0) ((rd_T43 l0_1 t871).f1) ((rd_T43 l0_1 t871).f2) ((rd_T43 l0_1 t871).f3) _ _ l1_0 a1_1 a1_2 a1_3 t873 t876 t877 t878 _ ?side1 ?side2 ?side3 ?side4 A8.out).mono ?_
     (case side1 => exact cp_ ((Kd.C_below HR872_0.out HB.out)))
     (case side2 => exact HC872_0.out)
     (case side3 => exact cp_ ((Kd.C_below HR1_0.out HB.out)))
     (case side4 => exact HC1_0.out)
     rintro e w29 ⟨v874, rfl, ho0, hb⟩
     refine ⟨_, rfl, ?_⟩
     replace HO869 := Aside0.mk (Kd.S_elder' (sp_ HO869.out) (Kd.R_base ho0) hb)
     have HO875 := Aside0.mk (Kd.R_lower ho0 (below_size (hs_ HB.out)))
     replace BK863 := bk2_ BK863 hb
     replace BK864 := bk2_ BK864 hb
     replace BK865 := bk2_ BK865 hb
     replace BK870 := bk2_ BK870 hb
     replace HB := st_ HB hb
     (try clear hb)
     (try clear hk)
     (try clear ho0)
     have p10 : 0 ≤ (t871 : Int) := of_decide_eq_true (by with_reducible assumption)
     have q10 : (t871 : Int) < ((t867.length : Int) : Int) := of_decide_eq_true (by with_reducible assumption)
     obtain ⟨go10, co10, eo10, gb10, gl10, cl10, HG10⟩ := Kd.S_form HO869.out (by omega)
     (first | cases eo10 | (injection eo10 with ea_ en_ ec_; (first | subst ea_ | (injection ea_ with ea_; subst ea_)); subst ec_; clear en_))
     have GB10 := Aside0.mk gb10
     have GG10 := Aside0.mk HG10
     clear gb10 gl10 HG10
     obtain ⟨_, ce10, hcl10, hM10, hcc10, hfr10, _, _⟩ := Kd.S_elem HO869.out z43 (t871 : Int) p10 q10
     obtain ⟨ve10_0, rfl, ge10_0⟩ := k43_openM hM10
     have hx10_0 : World.cell? _ ⟨go10, (t871 : Int).toNat * 4, none⟩ = some (ve10_0) := hcc10 0 _ rfl
     have hx10_1 : World.cell? _ ⟨go10, (t871 : Int).toNat * 4 + 1, none⟩ = some (.int .i64 ((rd_T43 t867 t871).f1)) := hcc10 1 _ rfl
     have hx10_2 : World.cell? _ ⟨go10, (t871 : Int).toNat * 4 + 2, none⟩ = some (.int .i64 ((rd_T43 t867 t871).f2)) := hcc10 2 _ rfl
     have hx10_3 : World.cell? _ ⟨go10, (t871 : Int).toNat * 4 + 3, none⟩ = some (.string ((rd_T43 t867 t871).f3)) := hcc10 3 _ rfl
     have hf10_0 : World.frozen? _ ⟨go10, (t871 : Int).toNat * 4, none⟩ = false := hfr10 0
     have hf10_1 : World.frozen? _ ⟨go10, (t871 : Int).toNat * 4 + 1, none⟩ = false := hfr10 1
     have hf10_2 : World.frozen? _ ⟨go10, (t871 : Int).toNat * 4 + 2, none⟩ = false := hfr10 2
     have hf10_3 : World.frozen? _ ⟨go10, (t871 : Int).toNat * 4 + 3, none⟩ = false := hfr10 3
     clear hcl10 hcc10 hfr10 hM10
     replace p10 := eq_true p10
     replace q10 := eq_true q10
     obtain ⟨Ao31, co31, eo31⟩ := Kd.R_slice HO875.out
     (first | subst eo31 | (obtain ⟨rfl, rfl⟩ := si_ eo31))
     have HX30 := Aside0.mk (show Kd.S k43 43 _ w.heap.size (fun k_ => ((fun k_ => k_ ≠ gb864)) k_ ∧ ¬ ((fun k_ => some k_ = (.slice Ao31 t873.length co31 : Value).ownBlock)) k_) (.slice (some ⟨go10, 0, none⟩) t867.length co23) t867 from (Kd.S_mono HO869.out (fun k_ hk => ⟨hk.1.2, fun e_ => hk.2 e_⟩)))
     obtain ⟨oki30, ce30, hcl30, hM30, hcc30, hfr30, hoki30, hH30⟩ := Kd.S_elem HX30.out z43 (t871 : Int) (of_decide_eq_true (by with_reducible assumption)) (by have h_ : (t871 : Int) < ((t867.length : Int) : Int) := of_decide_eq_true (by with_reducible assumption); first | exact h_ | (have e_ := (Kd.S_reads' HO869.out).1; omega) | simpa using h_)
     obtain ⟨ve30_0, rfl, ge30_0⟩ := k43_openM hM30
     have HP30 := (Kd.S_seg hH30 (of_decide_eq_true (by with_reducible assumption)) (by have h_ : (t871 : Int) < ((t867.length : Int) : Int) := of_decide_eq_true (by with_reducible assumption); first | exact h_ | (have e_ := (Kd.S_reads' HO869.out).1; omega) | simpa using h_) (seg := [.slice Ao31 t873.length co31, .int .i64 t876, .int .i64 t877, .string t878]) (j := 0) (show 4 ≤ 4 from by decide) (x' := (⟨t873, t876, t877, t878⟩ : S43)) (okg := (fun k_ => some k_ = (.slice Ao31 t873.length co31 : Value).ownBlock)) (okp := fun k_ => oki30 k_ ∨ ((fun k_ => some k_ = (.slice Ao31 t873.length co31 : Value).ownBlock)) k_) (k43_mkM _ _ _ (⟨t873, t876, t877, t878⟩ : S43) (Kd.R_mono (Kd.R_tight rfl (Kd.R_mono (ok' := fun k_ => ((fun k_ => k_ ≠ gb864)) k_ ∧ k_ ≠ go10) (Kd.R_types (Kd.R_apart' (HO875.out) (Kd.S_typed HO869.out) (by decide)) BK864.out (by decide)) (fun k_ hk => ⟨hk.2, fun e_ => (hk.1.2) (by rw [e_]; rfl)⟩))) (fun _ h_ => Or.inr (h_)))) (fun _ hk => hk) (fun k_ hk_ => ((Kd.R_mono (ok' := fun k_ => ((fun k_ => k_ ≠ gb864)) k_ ∧ k_ ≠ go10) (Kd.R_types (Kd.R_apart' (HO875.out) (Kd.S_typed HO869.out) (by decide)) BK864.out (by decide)) (fun k_ hk => ⟨hk.2, fun e_ => (hk.1.2) (by rw [e_]; rfl)⟩))).1 k_ hk_.symm)).1
     rw [← Ny879.out] at HP30
     have HQ30 := Aside0.mk HP30
     clear hcl30 hcc30 hfr30 hM30 HP30
     refine hK.out _ _ ⟨bx_ BK870.out 0, bx_ BK870.out 1, bx_ BK863.out 0, bx_ BK863.out 1, bx_ BK864.out 0, bx_ BK864.out 1, bx_ BK864.out 2, bx_ BK864.out 3, ((HB.out.cell (World.block_lt_of_cell? w _ hw872_0)).trans hw872_0), ((HB.out.cell (World.block_lt_of_cell? w _ hw872_1)).trans hw872_1), ((HB.out.cell (World.block_lt_of_cell? w _ hw872_2)).trans hw872_2), ((HB.out.cell (World.block_lt_of_cell? w _ hw872_3)).trans hw872_3)⟩ (fun hHeld => ?_)
     clear hK K
     refine norm_ (a' := ?_) ?_ ?_
     rotate_left
     ·
      show Act.put _ (some 25) _ = _
      simp only [fr_]
      rfl
     refine pw_ 10 26 (b_ 11 1) rfl rfl HT_.out ?_
     refine last_ (i := 11) (N := none) #[t_,t_,t_,t_,t_,t_,t_,t_,t_,t_,t_,t_] rfl rfl (one_of HT_.out (by kernel_rfl)) (by decide) (fun K hK => ?_)
     refine skip_ (w1 := ?_) (by rfl) rfl ?_ ?_
     rotate_left
     ·
      go_simp
      rfl
     refine hK.out _ _ ?_
     clear hK K
     refine done_ (done_of HT_.out (by kernel_rfl)) ?_
     generalize hw_ : ((((w29.setCell ⟨go10, (t871 : Int).toNat * 4, none⟩ (.slice Ao31 t873.length co31)).setCell ⟨go10, (t871 : Int).toNat * 4 + 1, none⟩ (.int .i64 t876)).setCell ⟨go10, (t871 : Int).toNat * 4 + 2, none⟩ (.int .i64 t877)).setCell ⟨go10, (t871 : Int).toNat * 4 + 3, none⟩ (.string t878)) = w32
     have n0_ : Aside0 (Kd.S k43 43 w32 w.heap.size (fun k_ => k_ ≠ gb864) (.slice (some ⟨go10, 0, none⟩) t867.length co23) y879) := ⟨by rw [← hw_]; exact (by (with_reducible repeat (first | apply Kd.S_alloc | apply Kd.S_drewN | apply Kd.S_drew)); exact HQ30.out)⟩
     have n1_ : Aside0 (w32.heap[gb863]? = some (.cells #[.int .i64 a0_0, .slice (some ad872) l0_1.length c0_1] 100 (0, 0))) := ⟨by rw [← hw_]; exact (by (with_reducible repeat (first | refine kn_ ?_ _ | refine kd_ ?_ | refine ka_ ?_ _)); refine blk_far ?_ (by have h_ := Kd.S_ne HO869.out BK863.out (by decide); intro e_; exact h_ (by rw [e_]; rfl)) _; (with_reducible repeat (first | refine kn_ ?_ _ | refine kd_ ?_ | refine ka_ ?_ _)); refine blk_far ?_ (by have h_ := Kd.S_ne HO869.out BK863.out (by decide); intro e_; exact h_ (by rw [e_]; rfl)) _; (with_reducible repeat (first | refine kn_ ?_ _ | refine kd_ ?_ | refine ka_ ?_ _)); refine blk_far ?_ (by have h_ := Kd.S_ne HO869.out BK863.out (by decide); intro e_; exact h_ (by rw [e_]; rfl)) _; (with_reducible repeat (first | refine kn_ ?_ _ | refine kd_ ?_ | refine ka_ ?_ _)); refine blk_far ?_ (by have h_ := Kd.S_ne HO869.out BK863.out (by decide); intro e_; exact h_ (by rw [e_]; rfl)) _; (with_reducible repeat (first | refine kn_ ?_ _ | refine kd_ ?_ | refine ka_ ?_ _)); exact BK863.out)⟩
     have n2_ : Aside0 (w32.heap[gb864]? = some (.cells #[.slice A1_0 l1_0.length c1_0, .int .i64 a1_1, .int .i64 a1_2, .string a1_3] 43 (0, 0))) := ⟨by rw [← hw_]; exact (by (with_reducible repeat (first | refine kn_ ?_ _ | refine kd_ ?_ | refine ka_ ?_ _)); refine blk_far ?_ (by have h_ := Kd.S_away HO869.out (fun _ hk => hk.1.2); intro e_; exact h_ (by rw [e_]; rfl)) _; (with_reducible repeat (first | refine kn_ ?_ _ | refine kd_ ?_ | refine ka_ ?_ _)); refine blk_far ?_ (by have h_ := Kd.S_away HO869.out (fun _ hk => hk.1.2); intro e_; exact h_ (by rw [e_]; rfl)) _; (with_reducible repeat (first | refine kn_ ?_ _ | refine kd_ ?_ | refine ka_ ?_ _)); refine blk_far ?_ (by have h_ := Kd.S_away HO869.out (fun _ hk => hk.1.2); intro e_; exact h_ (by rw [e_]; rfl)) _; (with_reducible repeat (first | refine kn_ ?_ _ | refine kd_ ?_ | refine ka_ ?_ _)); refine blk_far ?_ (by have h_ := Kd.S_away HO869.out (fun _ hk => hk.1.2); intro e_; exact h_ (by rw [e_]; rfl)) _; (with_reducible repeat (first | refine kn_ ?_ _ | refine kd_ ?_ | refine ka_ ?_ _)); exact BK864.out)⟩
     have n3_ : Aside0 (w32.heap[gb865]? = some (.cells #[.int .i64 0, .slice none 0 0] 100 (0, 0))) := ⟨by rw [← hw_]; exact (by (with_reducible repeat (first | refine kn_ ?_ _ | refine kd_ ?_ | refine ka_ ?_ _)); refine blk_far ?_ (by have h_ := Kd.S_ne HO869.out BK865.out (by decide); intro e_; exact h_ (by rw [e_]; rfl)) _; (with_reducible repeat (first | refine kn_ ?_ _ | refine kd_ ?_ | refine ka_ ?_ _)); refine blk_far ?_ (by have h_ := Kd.S_ne HO869.out BK865.out (by decide); intro e_; exact h_ (by rw [e_]; rfl)) _; (with_reducible repeat (first | refine kn_ ?_ _ | refine kd_ ?_ | refine ka_ ?_ _)); refine blk_far ?_ (by have h_ := Kd.S_ne HO869.out BK865.out (by decide); intro e_; exact h_ (by rw [e_]; rfl)) _; (with_reducible repeat (first | refine kn_ ?_ _ | refine kd_ ?_ | refine ka_ ?_ _)); refine blk_far ?_ (by have h_ := Kd.S_ne HO869.out BK865.out (by decide); intro e_; exact h_ (by rw [e_]; rfl)) _; (with_reducible repeat (first | refine kn_ ?_ _ | refine kd_ ?_ | refine ka_ ?_ _)); exact BK865.out)⟩
     have n4_ : Aside0 (w32.heap[gb870]? = some (.cells #[.int .i64 t866, .slice (some ⟨go10, 0, none⟩) t867.length co23] 100 (0, 0))) := ⟨by rw [← hw_]; exact (by (with_reducible repeat (first | refine kn_ ?_ _ | refine kd_ ?_ | refine ka_ ?_ _)); refine blk_far ?_ (by have h_ := Kd.S_ne HO869.out BK870.out (by decide); intro e_; exact h_ (by rw [e_]; rfl)) _; (with_reducible repeat (first | refine kn_ ?_ _ | refine kd_ ?_ | refine ka_ ?_ _)); refine blk_far ?_ (by have h_ := Kd.S_ne HO869.out BK870.out (by decide); intro e_; exact h_ (by rw [e_]; rfl)) _; (with_reducible repeat (first | refine kn_ ?_ _ | refine kd_ ?_ | refine ka_ ?_ _)); refine blk_far ?_ (by have h_ := Kd.S_ne HO869.out BK870.out (by decide); intro e_; exact h_ (by rw [e_]; rfl)) _; (with_reducible repeat (first | refine kn_ ?_ _ | refine kd_ ?_ | refine ka_ ?_ _)); refine blk_far ?_ (by have h_ := Kd.S_ne HO869.out BK870.out (by decide); intro e_; exact h_ (by rw [e_]; rfl)) _; (with_reducible repeat (first | refine kn_ ?_ _ | refine kd_ ?_ | refine ka_ ?_ _)); exact BK870.out)⟩
     have n5_ : Aside0 (Below w.heap.size w w32) := ⟨by rw [← hw_]; exact (by repeat (first | (with_reducible first | exact HB.out | apply ba_ | apply bn_ | apply bd_ | refine below_set ?_ GB10.out | refine below_set ?_ GB10.out | refine below_set ?_ GB10.out | refine below_set ?_ GB10.out | apply bs_ GE863 | apply bs_ GE864 | apply bs_ GE865 | apply bs_ GE870) | exact HB.out))⟩
     clear hw_
     (try clear HO869)
     (try clear BK863)
     (try clear BK864)
     (try clear BK865)
     (try clear BK870)
     (try clear HB)
     have HO869 := n0_
     have BK863 := n1_
     have BK864 := n2_
     have BK865 := n3_
     have BK870 := n4_
     have HB := n5_
     clear n0_ n1_ n2_ n3_ n4_ n5_
     obtain ⟨z33_0, z33_1, y33_0, y33_1⟩ := bc2_ BK870.out
     obtain ⟨z34_0, z34_1, y34_0, y34_1⟩ := bc2_ BK865.out
     try go_wp2
     refine bodyPost_ret (results_ct rfl _ _ gb865 100 #[.int .i64 t866, .slice (some ⟨go10, 0, none⟩) t867.length co23] (0, 0) _ rfl (bp_ BK865.out) Try.underlying100 rfl (by kernel_rfl)) rfl ?_
     exact ⟨_, by first | rfl | (simp [errW_none, errW_some] <;> rfl) | (simp [*, errW_none, errW_some] <;> rfl), by (with_reducible repeat (first | apply Kd.S_alloc | apply Kd.S_drewN | apply Kd.S_drew)); exact Kd.S_mono (sf_ gb865 (Kd.S_types HO869.out BK865.out (by decide)) (fun _ hk => hk.2)) (fun _ hk => trivial), by exact hs_ HB.out⟩
    rw [if_neg c9] at H
    exact absurd H (by simp)
   rw [if_neg c7] at H
   exact absurd H (by simp)
  rw [if_neg c6] at H
  exact absurd H (by simp)
 rw [if_neg c5] at H
 have c5b0 : decide (0 ≤ t871) = false := decide_eq_false c5
 clear c5
 replace H := Option.bind_eq_some_iff.mp H
 obtain ⟨⟨t880, t883, t884, t885⟩, A350, H⟩ := H
 have A35 := Aside0.mk A350
 clear A350
 by_cases c36 : t867.length < 2513169434916
 ·
  rw [if_pos c36] at H
  have LMc36 := Aside0.mk c36
  clear c36
  obtain ⟨y886, hy886⟩ : ∃ y_ : List (S43), y_ = (t867 ++ [(⟨t880, t883, t884, t885⟩ : S43)]) := ⟨_, rfl⟩
  replace H : (some (t866, y886, true)) = some (r1, r2, r3) := by first | (rw [hy886]; with_reducible exact H) | (have H2_ := (Option.bind_some _ _).symm.trans H; rw [hy886]; with_reducible exact H2_) | (have H2_ := (Option.bind_some _ _).symm.trans H; with_reducible exact H2_) | with_reducible exact H | (rw [hy886]; exact H) | exact H
  have Ny886 := Aside0.mk hy886
  clear hy886
  simp only [Option.some.injEq, Prod.mk.injEq] at H
  obtain ⟨rfl, rfl, rfl⟩ := H
  go_enter Try.func87, Try.ntmps87
  try go_wp2_with (first | ((with_reducible refine gd_ 2 rfl ?_); refine bv_ 2 #[.int .i64 a0_0, .slice A0_1 l0_1.length c0_1] 100 ?_; intro gb863 hg w37 hbox hb; have BK863 := Aside0.mk (hbox); have GW863 := Aside0.mk ((gw_ hg (hs_ HB.out))); replace HB := st_ HB hb; have GE863 := Ge_.mk GW863.out; clear hb hbox hg) | ((with_reducible refine gd_ 3 rfl ?_); refine bv_ 3 #[.slice A1_0 l1_0.length c1_0, .int .i64 a1_1, .int .i64 a1_2, .string a1_3] 43 ?_; intro gb864 hg w38 hbox hb; have BK864 := Aside0.mk (hbox); have GW864 := Aside0.mk ((gw_ hg (hs_ HB.out))); replace HB := st_ HB hb; have GE864 := Ge_.mk GW864.out; have NB863_864 := Ne_.mk (nl_ BK863.out hg); replace BK863 := bk2_ BK863 hb; have NB864_863 := Ne_.mk (NB863_864.out.symm); clear hb hbox hg) | ((with_reducible refine gd_ 4 rfl ?_); refine bv_ 4 #[.int .i64 0, .slice none 0 0] 100 ?_; intro gb865 hg w39 hbox hb; have BK865 := Aside0.mk (hbox); have GW865 := Aside0.mk ((gw_ hg (hs_ HB.out))); replace HB := st_ HB hb; have GE865 := Ge_.mk GW865.out; have NB863_865 := Ne_.mk (nl_ BK863.out hg); replace BK863 := bk2_ BK863 hb; have NB865_863 := Ne_.mk (NB863_865.out.symm); have NB864_865 := Ne_.mk (nl_ BK864.out hg); replace BK864 := bk2_ BK864 hb; have NB865_864 := Ne_.mk (NB864_865.out.symm); clear hb hbox hg; have hnb40 := NB863_864.out; have hnc40 := NB864_863.out; have hnb41 := NB863_865.out; have hnc41 := NB865_863.out; obtain ⟨z42_0, z42_1, y42_0, y42_1⟩ := bc2_ BK863.out) | ((with_reducible refine gate_callee (f := 110) rfl ?_); refine gl_ (some 9) Try.func110 #[.agg #[.int .i64 a0_0, .slice A0_1 l0_1.length c0_1]] ?_; (with_reducible refine (impl_copyChain.calls k a0_0 _ _ l0_1 t866 t867 _ ?side1 ?side2 A3.out).mono ?_); (case side1 => exact cp_ ((Kd.C_below HR0_1.out HB.out))); (case side2 => exact HC0_1.out); rintro e w43 ⟨v868, rfl, ho0, hb⟩; refine ⟨_, rfl, ?_⟩; have HO869 := Aside0.mk (Kd.S_lower (Kd.S_newB ho0 (g := gb864) (o := .cells #[.slice A1_0 l1_0.length c1_0, .int .i64 a1_1, .int .i64 a1_2, .string a1_3] 43 (0, 0)) (pb_ BK864.out)) (below_size (hs_ HB.out))); replace BK863 := bk2_ BK863 hb; replace BK864 := bk2_ BK864 hb; replace BK865 := bk2_ BK865 hb; replace HB := st_ HB hb; (try clear hb); (try clear hk); (try clear ho0)) | ((with_reducible refine gd_ 6 rfl ?_); refine bv_ 6 #[.int .i64 0, .slice none 0 0] 100 ?_; intro gb870 hg w44 hbox hb; replace HO869 := Aside0.mk (Kd.S_below (sp_ HO869.out) hb); have BK870 := Aside0.mk (hbox); have GW870 := Aside0.mk ((gw_ hg (hs_ HB.out))); replace HB := st_ HB hb; have GE870 := Ge_.mk GW870.out; have NB863_870 := Ne_.mk (nl_ BK863.out hg); replace BK863 := bk2_ BK863 hb; have NB870_863 := Ne_.mk (NB863_870.out.symm); have NB864_870 := Ne_.mk (nl_ BK864.out hg); replace BK864 := bk2_ BK864 hb; have NB870_864 := Ne_.mk (NB864_870.out.symm); have NB865_870 := Ne_.mk (nl_ BK865.out hg); replace BK865 := bk2_ BK865 hb; have NB870_865 := Ne_.mk (NB865_870.out.symm); clear hb hbox hg; have hnb45 := NB870_863.out; have hnc45 := NB863_870.out; have hnb46 := NB870_864.out; have hnc46 := NB864_870.out; have hnb47 := NB870_865.out; have hnc47 := NB865_870.out; obtain ⟨z48_0, z48_1, y48_0, y48_1⟩ := bc2_ BK870.out; obtain ⟨Ao49, co49, eo49⟩ := Kd.S_slice HO869.out; subst eo49; obtain ⟨z50_0, z50_1, y50_0, y50_1⟩ := bc2_ BK863.out; have hnb51 := NB864_865.out; have hnc51 := NB865_864.out; obtain ⟨z52_0, z52_1, z52_2, z52_3, y52_0, y52_1, y52_2, y52_3⟩ := bc4_ BK864.out) | ((with_reducible refine gate_callee (f := 79) rfl ?_); refine gl_ (some 13) Try.func79 #[.agg #[.int .i64 a0_0, .slice A0_1 l0_1.length c0_1], .slice A1_0 l1_0.length c1_0] ?_; (with_reducible refine (impl_InChain.calls k a0_0 _ _ l0_1 _ _ l1_0 t871 _ ?side1 ?side2 ?side3 ?side4 A4.out).mono ?_); (case side1 => exact Kd.C_below HR0_1.out (hs_ HB.out)); (case side2 => exact HC0_1.out); (case side3 => exact Kd.C_below HR1_0.out (hs_ HB.out)); (case side4 => exact HC1_0.out); rintro e w53 ⟨rfl, hb⟩; refine ⟨_, rfl, ?_⟩; replace HO869 := Aside0.mk (Kd.S_below (by (with_reducible repeat (first | apply Kd.S_alloc | apply Kd.S_drewN | apply Kd.S_drew)); exact (Kd.S_mono (sf_ gb870 (Kd.S_types HO869.out BK870.out (by decide)) (fun _ hk => hk.2)) (fun _ h_ => h_.1))) hb); replace BK863 := bk2_ BK863 hb; replace BK864 := bk2_ BK864 hb; replace BK865 := bk2_ BK865 hb; replace BK870 := Aside0.mk (blk_below (g := gb870) (o := .cells #[.int .i64 t866, .slice Ao49 t867.length co49] 100 (0, 0)) (bp_ BK870.out) hb); replace HB := st_ HB hb; (try clear hb); (try clear hk)))
  replace HO869 := Aside0.mk (Kd.S_drew HO869.out)
  replace BK863 := Aside0.mk (blk_drew BK863.out)
  replace BK864 := Aside0.mk (blk_drew BK864.out)
  replace BK865 := Aside0.mk (blk_drew BK865.out)
  replace BK870 := Aside0.mk (blk_drew BK870.out)
  replace HB := Aside0.mk (bd_ HB.out)
  refine start_ (n := 8) (S := fun w' => w'.cell? ⟨gb870, 0, none⟩ = some (.int .i64 t866) ∧ w'.cell? ⟨gb870, 1, none⟩ = some (.slice Ao49 t867.length co49) ∧ w'.cell? ⟨gb864, 0, none⟩ = some (.slice A1_0 l1_0.length c1_0) ∧ w'.cell? ⟨gb864, 1, none⟩ = some (.int .i64 a1_1) ∧ w'.cell? ⟨gb864, 2, none⟩ = some (.int .i64 a1_2) ∧ w'.cell? ⟨gb864, 3, none⟩ = some (.string a1_3)) (ds := [7]) #[f_,f_,f_,f_,f_,f_,f_,f_] (by kernel_rfl) rfl rfl ⟨bx_ BK870.out 0, bx_ BK870.out 1, bx_ BK864.out 0, bx_ BK864.out 1, bx_ BK864.out 2, bx_ BK864.out 3⟩ (fun hHeld => ?_); refine with_tabW impl_PutChain.tab6 impl_PutChain.bits6 (fun HT_ HW_ => ?_)
  generalize w53.drew = w54 at HO869 BK863 BK864 BK865 BK870 HB hHeld ⊢
  refine pw_ 0 28 (b_ 1 7) rfl rfl HT_.out ?_
  refine take_ (i := 1) (N := some 29) (v := ?_) (a' := ?_) #[t_,t_,f_,f_,f_,f_,f_,f_] rfl rfl (take_ofW HT_.out HW_.out (by kernel_rfl)) (fun _ _ _ h => h) (Or.inl ⟨by rfl, ?_⟩) hHeld ?_ ?_
  rotate_left
  ·
   rintro w' ⟨s0, s1, s2, s3, s4, s5⟩
   go_simp
   with_reducible rfl
  rotate_left
  ·
   simp only [fr_]
   rfl
  refine take_ (i := 2) (N := some 30) (v := ?_) (a' := ?_) #[t_,t_,t_,f_,f_,f_,f_,f_] rfl rfl (take_ofW HT_.out HW_.out (by kernel_rfl)) (fun _ _ _ h => h) (Or.inl ⟨by rfl, ?_⟩) hHeld ?_ ?_
  rotate_left
  ·
   rintro w' ⟨s0, s1, s2, s3, s4, s5⟩
   go_simp
   with_reducible rfl
  rotate_left
  ·
   simp only [fr_]
   rfl
  refine one_ (i := 3) (N := some 31) #[t_,t_,t_,t_,f_,f_,f_,f_] rfl rfl (one_of HT_.out (by kernel_rfl)) (by decide) (fun K hK => ?_)
  refine gs_ Try.func80 #[.agg #[.slice A1_0 l1_0.length c1_0, .int .i64 a1_1, .int .i64 a1_2, .string a1_3]] ?_
  with_reducible refine (impl_copyAlarm.calls _ _ l1_0 a1_1 a1_2 a1_3 t880 t883 t884 t885 _ ?side1 ?side2 A35.out).mono ?_
  (case side1 => exact cp_ ((Kd.C_below HR1_0.out HB.out)))
  (case side2 => exact HC1_0.out)
  rintro e w55 ⟨v881, rfl, ho0, hb⟩
  refine ⟨_, rfl, ?_⟩
  replace HO869 := Aside0.mk (Kd.S_elder' (sp_ HO869.out) (Kd.R_base ho0) hb)
  have HO882 := Aside0.mk (Kd.R_lower ho0 (below_size (hs_ HB.out)))
  replace BK863 := bk2_ BK863 hb
  replace BK864 := bk2_ BK864 hb
  replace BK865 := bk2_ BK865 hb
  replace BK870 := bk2_ BK870 hb
  replace HB := st_ HB hb
  (try clear hb)
  (try clear hk)
  (try clear ho0)
  obtain ⟨Ao57, co57, eo57⟩ := Kd.R_slice HO882.out
  (first | subst eo57 | (obtain ⟨rfl, rfl⟩ := si_ eo57))
  refine hK.out _ _ ⟨bx_ BK870.out 0, bx_ BK870.out 1, bx_ BK864.out 0, bx_ BK864.out 1, bx_ BK864.out 2, bx_ BK864.out 3⟩ (fun hHeld => ?_)
  clear hK K
  refine norm_ (a' := ?_) ?_ ?_
  rotate_left
  ·
   show Act.put _ (some 31) _ = _
   simp only [fr_]
   rfl
  refine one_ (i := 4) (N := some 32) #[t_,t_,t_,t_,t_,f_,f_,f_] rfl rfl (one_of HT_.out (by kernel_rfl)) (by decide) (fun K hK => ?_)
  refine value_ (w1 := ?_) (v := ?_) (by rfl) rfl ?_ ?_
  rotate_left 2
  ·
   go_simp
   constructor
   ·
    rfl
   rfl
  refine hK.out _ _ ⟨(blk_cell (blk_alloc BK870.out _) 0).trans rfl, (blk_cell (blk_alloc BK870.out _) 1).trans rfl, (blk_cell (blk_alloc BK864.out _) 0).trans rfl, (blk_cell (blk_alloc BK864.out _) 1).trans rfl, (blk_cell (blk_alloc BK864.out _) 2).trans rfl, (blk_cell (blk_alloc BK864.out _) 3).trans rfl⟩ (fun hHeld => ?_)
  clear hK K
  refine norm_ (a' := ?_) ?_ ?_
  rotate_left
  ·
   show Act.put _ (some 32) _ = _
   simp only [fr_]
   rfl
  refine one_ (i := 5) (N := some 33) #[t_,t_,t_,t_,t_,t_,f_,f_] rfl rfl (one_of HT_.out (by kernel_rfl)) (by decide) (fun K hK => ?_)
  refine Kd.S_append_step k43 (w0 := w) w.heap.size (by rfl) (.tmp 29) (.tmp 32) 44 43 (.agg #[(.slice none 0 0), (.int .i64 0), (.int .i64 0), (.string ⟨#[]⟩)]) 56 rfl Try.underlying44 info43 rfl (by decide) (by omega) (.slice Ao49 t867.length co49) t867 (⟨t880, t883, t884, t885⟩ : S43) [.slice Ao57 t880.length co57, .int .i64 t883, .int .i64 t884, .string t885] (fun k_ => k_ ≠ gb864) (fun k_ => some k_ = (.slice Ao57 t880.length co57 : Value).ownBlock) rfl rfl ?aP (fun k_ hk_ => ((Kd.R_mono (ok' := fun k_ => ((fun k_ => k_ ≠ gb864)) k_ ∧ some k_ ≠ (.slice Ao49 t867.length co49 : Value).ownBlock) (Kd.R_types (Kd.R_apart' (HO882.out) (Kd.S_typed HO869.out) (by decide)) BK864.out (by decide)) (fun k_ hk => ⟨hk.2, hk.1.2⟩))).1 k_ hk_.symm) ?aF ?aO ?aB ?aS ?aL ?_
  (case aP => exact k43_mkM _ _ _ (⟨t880, t883, t884, t885⟩ : S43) (Kd.R_mono (Kd.R_tight rfl (Kd.R_mono (ok' := fun k_ => ((fun k_ => k_ ≠ gb864)) k_ ∧ some k_ ≠ (.slice Ao49 t867.length co49 : Value).ownBlock) (Kd.R_types (Kd.R_apart' (HO882.out) (Kd.S_typed HO869.out) (by decide)) BK864.out (by decide)) (fun k_ hk => ⟨hk.2, hk.1.2⟩))) (fun _ h_ => h_)))
  (case aB => exact (hs_ HB.out))
  (case aF => exact (fun k_ hk => Kd.freshB (g := gb864) (o := .cells #[.slice A1_0 l1_0.length c1_0, .int .i64 a1_1, .int .i64 a1_2, .string a1_3] 43 (0, 0)) (pb_ BK864.out) k_ hk))
  (case aO => exact (Kd.S_mono (sp_ HO869.out) (fun k_ hk => ⟨hk.1.2, fun e_ => hk.2 e_⟩)))
  (case aS => exact (below_size (hs_ HB.out)))
  (case aL => have := LMc36.out; omega)
  intro v887 w56 ho hb hg hat
  rw [← Ny886.out] at ho
  replace BK863 := Aside0.mk (blk_grown (bq_ BK863.out) hg (Kd.S_ne HO869.out BK863.out (by decide)))
  replace BK864 := Aside0.mk (blk_grown (bq_ BK864.out) hg (Kd.S_away HO869.out (fun _ hk => hk.1.2)))
  replace BK865 := Aside0.mk (blk_grown (bq_ BK865.out) hg (Kd.S_ne HO869.out BK865.out (by decide)))
  replace BK870 := Aside0.mk (blk_grown (bq_ BK870.out) hg (Kd.S_ne HO869.out BK870.out (by decide)))
  replace HB := Aside0.mk (hb)
  have HO888 := Aside0.mk (ho)
  clear HO869 HO882
  clear ho hb hg hat
  obtain ⟨Ao58, co58, eo58⟩ := Kd.S_slice HO888.out
  (first | subst eo58 | (obtain ⟨rfl, rfl⟩ := si_ eo58))
  refine hK.out _ _ ⟨bx_ BK870.out 0, bx_ BK870.out 1, bx_ BK864.out 0, bx_ BK864.out 1, bx_ BK864.out 2, bx_ BK864.out 3⟩ (fun hHeld => ?_)
  clear hK K
  refine norm_ (a' := ?_) ?_ ?_
  rotate_left
  ·
   show Act.put _ (some 33) _ = _
   simp only [fr_]
   rfl
  refine pw_ 6 34 (b_ 7 1) rfl rfl HT_.out ?_
  refine last_ (i := 7) (N := none) #[t_,t_,t_,t_,t_,t_,t_,t_] rfl rfl (one_of HT_.out (by kernel_rfl)) (by decide) (fun K hK => ?_)
  have hs59 : w56.cell? ⟨gb870, 1, none⟩ = some (.slice Ao49 t867.length co49) := bx_ BK870.out 1
  have hfs59 := blk_frozen BK870.out 1
  have hns59_0 := NB863_870.out
  have hns59_1 := NB864_870.out
  have hns59_2 := NB865_870.out
  have hms59_0 := NB870_863.out
  have hms59_1 := NB870_864.out
  have hms59_2 := NB870_865.out
  refine skip_ (w1 := ?_) (by rfl) rfl ?_ ?_
  rotate_left
  ·
   go_simp
   rfl
  refine hK.out _ _ ?_
  clear hK K
  refine done_ (done_of HT_.out (by kernel_rfl)) ?_
  obtain ⟨z60_0, z60_1, y60_0, y60_1⟩ := bc2_ BK870.out
  obtain ⟨z61_0, z61_1, y61_0, y61_1⟩ := bc2_ BK865.out
  try go_wp2
  refine bodyPost_ret (results_ct rfl _ _ gb865 100 #[.int .i64 t866, .slice Ao58 y886.length co58] (0, 0) _ rfl (bp_ BK865.out) Try.underlying100 rfl (by kernel_rfl)) rfl ?_
  exact ⟨_, by first | rfl | (simp [errW_none, errW_some] <;> rfl) | (simp [*, errW_none, errW_some] <;> rfl), by (with_reducible repeat (first | apply Kd.S_alloc | apply Kd.S_drewN | apply Kd.S_drew)); exact Kd.S_mono (sf_ gb865 (Kd.S_far (p := ⟨gb870, 1, none⟩) (Kd.S_types (Kd.S_types HO888.out BK870.out (by decide)) BK865.out (by decide)) (fun _ hk => hk.1.2) (.slice Ao58 y886.length co58)) (fun _ hk => hk.2)) (fun _ hk => trivial), by exact hs_ HB.out⟩
 rw [if_neg c36] at H
 exact absurd H (by simp)
mutual
def impl_PutIn.l0 : Nat → Int → Int → List (S88) → Int → Int → ByteArray → Int → Int → List (S100) → Option (Int × Int × (List (S100)) × Bool)
 | 0, _, _, _, _, _, _, _, _, _ => none
 | k + 1, x7, x11, x891000, x891001, x891002, x891003, x898000, x898001, x898002 => if x11 < (x898002.length : Int) then (if 0 ≤ x11 then (impl_PutIn.j1 k x7 x11 (decide (((rd_T100 x898002 x11).f0) ≤ x7)) x891000 x891001 x891002 x891003 x898000 x898001 x898002) else (none)) else (impl_PutIn.j1 k x7 x11 false x891000 x891001 x891002 x891003 x898000 x898001 x898002)
def impl_PutIn.j1 : Nat → Int → Int → Bool → List (S88) → Int → Int → ByteArray → Int → Int → List (S100) → Option (Int × Int × (List (S100)) × Bool)
 | 0, _, _, _, _, _, _, _, _, _, _ => none
 | k + 1, x7, x11, x58, x891000, x891001, x891002, x891003, x898000, x898001, x898002 => if x58 = true then (impl_PutIn.l0 k x7 (wrap64 (x11 + 1)) x891000 x891001 x891002 x891003 x898000 x898001 x898002) else ((impl_copyAlarm.f x891000 x891001 x891002 x891003).bind fun bt909 => (if 0 ≤ x11 then (if x11 ≤ (x898002.length : Int) then ((some (x898002.drop (x11 : Int).toNat : List (S100))).bind fun y922 => ((some (x898002.take (x11 : Int).toNat : List (S100))).bind fun y919 => (if ([] : List (S100)).length + y919.length < 4398046511104 then ((some (([] : List (S100)) ++ y919 : List (S100))).bind fun y926 => (if y926.length < 4398046511104 then ((some (y926 ++ [(⟨x7, (([(⟨bt909.1, bt909.2.1, bt909.2.2.1, bt909.2.2.2⟩ : S43)] : List (S43)))⟩ : S100)] : List (S100))).bind fun y930 => (if y930.length + y922.length < 4398046511104 then (some (x898000, x898001, (y930 ++ y922), true)) else (none))) else (none))) else (none)))) else (none)) else (none)))
end
def impl_PutIn.f (k : Nat) (a0_0 : Int) (a0_1 : Int) (l0_2 : List (S100)) (l1_0 : List (S88)) (a1_1 : Int) (a1_2 : Int) (a1_3 : ByteArray) : Option (Int × Int × (List (S100)) × Bool) := (impl_copyPart.f k a0_0 a0_1 l0_2).bind fun bt892 => ((impl_Finger.f k l1_0).bind fun t898 => ((impl_chainOf.f k a0_0 a0_1 l0_2 t898).bind fun t899 => (if t899 ≥ 0 then (if 0 ≤ t899 then (if t899 < (l0_2.length : Int) then ((impl_PutChain.f k ((rd_T100 l0_2 t899).f0) ((rd_T100 l0_2 t899).f1) l1_0 a1_1 a1_2 a1_3).bind fun bt901 => (if t899 < (bt892.2.2.length : Int) then (some (bt892.1, wrap64 (bt892.2.1 + 1), (bt892.2.2.set (t899 : Int).toNat (⟨bt901.1, bt901.2.1⟩ : S100)), bt901.2.2)) else (none))) else (none)) else (none)) else (impl_PutIn.l0 k t898 0 l1_0 a1_1 a1_2 a1_3 bt892.1 (wrap64 (bt892.2.1 + 1)) bt892.2.2))))
theorem impl_PutIn.mono_l : ∀ k, (∀ y0 y1 y2 y3 y4 y5 y6 y7 y8, LeO (impl_PutIn.l0 k y0 y1 y2 y3 y4 y5 y6 y7 y8) (impl_PutIn.l0 (k + 1) y0 y1 y2 y3 y4 y5 y6 y7 y8)) ∧ (∀ y0 y1 y2 y3 y4 y5 y6 y7 y8 y9, LeO (impl_PutIn.j1 k y0 y1 y2 y3 y4 y5 y6 y7 y8 y9) (impl_PutIn.j1 (k + 1) y0 y1 y2 y3 y4 y5 y6 y7 y8 y9))
 | 0 => ⟨fun _ _ _ _ _ _ _ _ _ r h => by simp [impl_PutIn.l0] at h, fun _ _ _ _ _ _ _ _ _ _ r h => by simp [impl_PutIn.j1] at h⟩
 | k + 1 => by
  obtain ⟨ih0, ih1⟩ := impl_PutIn.mono_l k
  refine ⟨?_, ?_⟩
  ·
   intro y0 y1 y2 y3 y4 y5 y6 y7 y8
   unfold impl_PutIn.l0
   repeat' first
   | (with_reducible exact ih0 _ _ _ _ _ _ _ _ _)
   | (with_reducible exact ih1 _ _ _ _ _ _ _ _ _ _)
   | (with_reducible exact impl_Finger.mono _ _)
   | (with_reducible exact impl_PutChain.mono _ _ _ _ _ _ _)
   | (with_reducible exact impl_chainOf.mono _ _ _ _ _)
   | (with_reducible exact impl_copyPart.mono _ _ _ _)
   | (with_reducible exact LeO.refl _)
   | (with_reducible exact LeO.none _)
   | (with_reducible refine LeO.ite ?_ ?_)
   | (with_reducible refine LeO.bind ?_ (fun _ => ?_))
   | exact ih0 _ _ _ _ _ _ _ _ _
   | exact ih1 _ _ _ _ _ _ _ _ _ _
   | exact impl_Finger.mono _ _
   | exact impl_PutChain.mono _ _ _ _ _ _ _
   | exact impl_chainOf.mono _ _ _ _ _
   | exact impl_copyPart.mono _ _ _ _
  intro y0 y1 y2 y3 y4 y5 y6 y7 y8 y9
  unfold impl_PutIn.j1
  repeat' first
  | (with_reducible exact ih0 _ _ _ _ _ _ _ _ _)
  | (with_reducible exact ih1 _ _ _ _ _ _ _ _ _ _)
  | (with_reducible exact impl_Finger.mono _ _)
  | (with_reducible exact impl_PutChain.mono _ _ _ _ _ _ _)
  | (with_reducible exact impl_chainOf.mono _ _ _ _ _)
  | (with_reducible exact impl_copyPart.mono _ _ _ _)
  | (with_reducible exact LeO.refl _)
  | (with_reducible exact LeO.none _)
  | (with_reducible refine LeO.ite ?_ ?_)
  | (with_reducible refine LeO.bind ?_ (fun _ => ?_))
  | exact ih0 _ _ _ _ _ _ _ _ _
  | exact ih1 _ _ _ _ _ _ _ _ _ _
  | exact impl_Finger.mono _ _
  | exact impl_PutChain.mono _ _ _ _ _ _ _
  | exact impl_chainOf.mono _ _ _ _ _
  | exact impl_copyPart.mono _ _ _ _
theorem impl_PutIn.mono : ∀ a0 a1 a2 a3 a4 a5 a6 k, LeO (impl_PutIn.f k a0 a1 a2 a3 a4 a5 a6) (impl_PutIn.f (k + 1) a0 a1 a2 a3 a4 a5 a6) := by
 intro a0 a1 a2 a3 a4 a5 a6 k
 obtain ⟨ih0, ih1⟩ := impl_PutIn.mono_l k
 unfold impl_PutIn.f
 repeat' first | (with_reducible first | exact ih0 _ _ _ _ _ _ _ _ _ | exact ih1 _ _ _ _ _ _ _ _ _ _ | exact impl_Finger.mono _ _ | exact impl_PutChain.mono _ _ _ _ _ _ _ | exact impl_chainOf.mono _ _ _ _ _ | exact impl_copyPart.mono _ _ _ _ | exact LeO.refl _ | exact LeO.none _ | refine LeO.ite ?_ ?_ | refine LeO.bind ?_ (fun _ => ?_)) | exact ih0 _ _ _ _ _ _ _ _ _ | exact ih1 _ _ _ _ _ _ _ _ _ _ | exact impl_Finger.mono _ _ | exact impl_PutChain.mono _ _ _ _ _ _ _ | exact impl_chainOf.mono _ _ _ _ _ | exact impl_copyPart.mono _ _ _ _
def impl_PutIn.T6 : Bool × List (List Nat × List Nat) := (true, [([], []), ([0], [0]), ([], []), ([1, 2], [1, 2]), ([3], [3]), ([], []), ([4, 5], [4, 5]), ([6], [6]), ([7], [7]), ([7], [7]), ([], []), ([10, 8, 6, 0, 1, 2, 3, 4, 5, 6, 7, 8, 10], [8, 10]), ([9, 11, 0, 1, 2, 3, 4, 5, 6, 7, 8, 9, 10, 11], [9])])
def impl_PutIn.B6 : List Nat := [0, 1, 0, 7, 15, 0, 63, 127, 255, 255, 0, 1535, 4095]
theorem impl_PutIn.tab6 : rtab .any (opsOf Try.f45 6) = impl_PutIn.T6 := by kernel_rfl
theorem impl_PutIn.bits6 : waitsOk impl_PutIn.T6.2 impl_PutIn.B6 = true := by kernel_rfl
def impl_PutIn.T13 : Bool × List (List Nat × List Nat) := (true, [([], []), ([0], [0]), ([], []), ([1, 2], [1, 2]), ([3], [3]), ([], []), ([5], [5]), ([4, 6, 4], [4, 6]), ([], []), ([8], [8]), ([], []), ([9, 10], [9, 10]), ([7, 11, 7], [7, 11]), ([0, 1, 2, 3, 4, 5, 6, 7, 8, 9, 10, 11, 12], []), ([13, 12, 12, 0, 1, 2, 3, 4, 5, 6, 7, 8, 9, 10, 11, 12], [12, 13])])
def impl_PutIn.B13 : List Nat := [0, 1, 0, 7, 15, 0, 32, 127, 0, 256, 0, 1792, 4095, 8191, 16383]
theorem impl_PutIn.tab13 : rtab .any (opsOf Try.f45 13) = impl_PutIn.T13 := by kernel_rfl
theorem impl_PutIn.bits13 : waitsOk impl_PutIn.T13.2 impl_PutIn.B13 = true := by kernel_rfl
theorem impl_PutIn.calls (k : Nat) (a0_0 : Int) (a0_1 : Int) (A0_2 : Option Addr) (c0_2 : Nat) (l0_2 : List (S100)) (A1_0 : Option Addr) (c1_0 : Nat) (l1_0 : List (S88)) (a1_1 : Int) (a1_2 : Int) (a1_3 : ByteArray) (r1 : Int) (r2 : Int) (r3 : List (S100)) (r4 : Bool) (w : World) (hr0_2 : Kd.C k100 w A0_2 l0_2.length l0_2) (hc0_2 : l0_2.length ≤ c0_2) (hr1_0 : Kd.C k88 w A1_0 l1_0.length l1_0) (hc1_0 : l1_0.length ≤ c1_0) (h : impl_PutIn.f k a0_0 a0_1 l0_2 l1_0 a1_1 a1_2 a1_3 = some (r1, r2, r3, r4)) :
  Calls Try.prog 45 #[.agg #[.int .i64 a0_0, .int .i64 a0_1, .slice A0_2 l0_2.length c0_2], .agg #[.slice A1_0 l1_0.length c1_0, .int .i64 a1_1, .int .i64 a1_2, .string a1_3]] w fun e w' => ∃ v2_ : Value, e = .returned (.tuple #[.agg #[.int .i64 r1, .int .i64 r2, v2_], .bool r4]) ∧ Kd.S k100 100 w' w.heap.size (fun _ => True) v2_ r3 ∧ Below w.heap.size w w' := by
 have hu57 := Try.underlying57
 have hu43 := Try.underlying43
 have hu100 := Try.underlying100
 have HR0_2 := Aside0.mk hr0_2
 have HC0_2 := Aside0.mk hc0_2
 clear hr0_2 hc0_2
 have HR1_0 := Aside0.mk hr1_0
 have HC1_0 := Aside0.mk hc1_0
 clear hr1_0 hc1_0
 have HB := Aside0.mk (Below.refl w.heap.size w)
 have H : ((impl_copyPart.f k a0_0 a0_1 l0_2).bind fun bt892 => ((impl_Finger.f k l1_0).bind fun t898 => ((impl_chainOf.f k a0_0 a0_1 l0_2 t898).bind fun t899 => (if t899 ≥ 0 then (if 0 ≤ t899 then (if t899 < (l0_2.length : Int) then ((impl_PutChain.f k ((rd_T100 l0_2 t899).f0) ((rd_T100 l0_2 t899).f1) l1_0 a1_1 a1_2 a1_3).bind fun bt901 => (if t899 < (bt892.2.2.length : Int) then (some (bt892.1, wrap64 (bt892.2.1 + 1), (bt892.2.2.set (t899 : Int).toNat (⟨bt901.1, bt901.2.1⟩ : S100)), bt901.2.2)) else (none))) else (none)) else (none)) else (impl_PutIn.l0 k t898 0 l1_0 a1_1 a1_2 a1_3 bt892.1 (wrap64 (bt892.2.1 + 1)) bt892.2.2))))) = some (r1, r2, r3, r4) := h
 clear h
 replace H := Option.bind_eq_some_iff.mp H
 obtain ⟨⟨t892, t893, t894⟩, A30, H⟩ := H
 have A3 := Aside0.mk A30
 clear A30
 replace H := Option.bind_eq_some_iff.mp H
 obtain ⟨t898, A40, H⟩ := H
 have A4 := Aside0.mk A40
 clear A40
 replace H := Option.bind_eq_some_iff.mp H
 obtain ⟨t899, A50, H⟩ := H
 have A5 := Aside0.mk A50
 clear A50
 by_cases c6 : t899 ≥ 0
 ·
  rw [if_pos c6] at H
  have c6b0 : decide (0 ≤ t899) = true := decide_eq_true c6
  clear c6
  by_cases c7 : 0 ≤ t899
  ·
   rw [if_pos c7] at H
   have c7b0 := decide_eq_true c7
   clear c7
   by_cases c8 : t899 < (l0_2.length : Int)
   ·
    rw [if_pos c8] at H
    have c8b0 := decide_eq_true c8
    clear c8
    replace H := Option.bind_eq_some_iff.mp H
    obtain ⟨⟨t901, t902, t905⟩, A90, H⟩ := H
    have A9 := Aside0.mk A90
    clear A90
    by_cases c10 : t899 < (t894.length : Int)
    ·
     rw [if_pos c10] at H
     have c10b0 := decide_eq_true c10
     clear c10
     obtain ⟨y907, hy907⟩ : ∃ y_ : List (S100), y_ = (t894.set (t899 : Int).toNat (⟨t901, t902⟩ : S100)) := ⟨_, rfl⟩
     replace H : (some (t892, wrap64 (t893 + 1), y907, t905)) = some (r1, r2, r3, r4) := by first | (rw [hy907]; with_reducible exact H) | (have H2_ := (Option.bind_some _ _).symm.trans H; rw [hy907]; with_reducible exact H2_) | (have H2_ := (Option.bind_some _ _).symm.trans H; with_reducible exact H2_) | with_reducible exact H | (rw [hy907]; exact H) | exact H
     have Ny907 := Aside0.mk hy907
     clear hy907
     simp only [Option.some.injEq, Prod.mk.injEq] at H
     obtain ⟨rfl, rfl, rfl, rfl⟩ := H
     go_enter Try.func45, Try.ntmps45
     try go_wp2_with (first | ((with_reducible refine gd_ 2 rfl ?_); refine bv_ 2 #[.int .i64 a0_0, .int .i64 a0_1, .slice A0_2 l0_2.length c0_2] 57 ?_; intro gb889 hg w12 hbox hb; have BK889 := Aside0.mk (hbox); have GW889 := Aside0.mk ((gw_ hg (hs_ HB.out))); replace HB := st_ HB hb; have GE889 := Ge_.mk GW889.out; clear hb hbox hg) | ((with_reducible refine gd_ 3 rfl ?_); refine bv_ 3 #[.slice A1_0 l1_0.length c1_0, .int .i64 a1_1, .int .i64 a1_2, .string a1_3] 43 ?_; intro gb890 hg w13 hbox hb; have BK890 := Aside0.mk (hbox); have GW890 := Aside0.mk ((gw_ hg (hs_ HB.out))); replace HB := st_ HB hb; have GE890 := Ge_.mk GW890.out; have NB889_890 := Ne_.mk (nl_ BK889.out hg); replace BK889 := bk2_ BK889 hb; have NB890_889 := Ne_.mk (NB889_890.out.symm); clear hb hbox hg) | ((with_reducible refine gd_ 4 rfl ?_); refine bv_ 4 #[.int .i64 0, .int .i64 0, .slice none 0 0] 57 ?_; intro gb891 hg w14 hbox hb; have BK891 := Aside0.mk (hbox); have GW891 := Aside0.mk ((gw_ hg (hs_ HB.out))); replace HB := st_ HB hb; have GE891 := Ge_.mk GW891.out; have NB889_891 := Ne_.mk (nl_ BK889.out hg); replace BK889 := bk2_ BK889 hb; have NB891_889 := Ne_.mk (NB889_891.out.symm); have NB890_891 := Ne_.mk (nl_ BK890.out hg); replace BK890 := bk2_ BK890 hb; have NB891_890 := Ne_.mk (NB890_891.out.symm); clear hb hbox hg; have hnb15 := NB889_890.out; have hnc15 := NB890_889.out; have hnb16 := NB889_891.out; have hnc16 := NB891_889.out; obtain ⟨z17_0, z17_1, z17_2, y17_0, y17_1, y17_2⟩ := bc3_ BK889.out) | ((with_reducible refine gate_callee (f := 86) rfl ?_); refine gl_ (some 14) Try.func86 #[.agg #[.int .i64 a0_0, .int .i64 a0_1, .slice A0_2 l0_2.length c0_2]] ?_; (with_reducible refine (impl_copyPart.calls k a0_0 a0_1 _ _ l0_2 t892 t893 t894 _ ?side1 ?side2 A3.out).mono ?_); (case side1 => exact cp_ ((Kd.C_below HR0_2.out HB.out))); (case side2 => exact HC0_2.out); rintro e w18 ⟨v895, rfl, ho0, hb⟩; refine ⟨_, rfl, ?_⟩; obtain ⟨gbz895, hz895⟩ := Kd.S_name ho0; have HO896 := Aside0.mk (Kd.S_lower (Kd.S_newB (Kd.S_gez hz895 ho0) (g := gb890) (o := .cells #[.slice A1_0 l1_0.length c1_0, .int .i64 a1_1, .int .i64 a1_2, .string a1_3] 43 (0, 0)) (pb_ BK890.out)) (below_size (hs_ HB.out))); replace BK889 := bk2_ BK889 hb; replace BK890 := bk2_ BK890 hb; replace BK891 := bk2_ BK891 hb; replace HB := st_ HB hb; (try clear hb); (try clear hk); (try clear ho0)) | ((with_reducible refine gd_ 6 rfl ?_); refine bv_ 6 #[.int .i64 0, .int .i64 0, .slice none 0 0] 57 ?_; intro gb897 hg w19 hbox hb; replace HO896 := Aside0.mk (Kd.S_below (Kd.S_ltz hg (sp_ HO896.out)) hb); have BK897 := Aside0.mk (hbox); have GW897 := Aside0.mk ((gw_ hg (hs_ HB.out))); replace HB := st_ HB hb; have GE897 := Ge_.mk GW897.out; have NB889_897 := Ne_.mk (nl_ BK889.out hg); replace BK889 := bk2_ BK889 hb; have NB897_889 := Ne_.mk (NB889_897.out.symm); have NB890_897 := Ne_.mk (nl_ BK890.out hg); replace BK890 := bk2_ BK890 hb; have NB897_890 := Ne_.mk (NB890_897.out.symm); have NB891_897 := Ne_.mk (nl_ BK891.out hg); replace BK891 := bk2_ BK891 hb; have NB897_891 := Ne_.mk (NB891_897.out.symm); clear hb hbox hg; have hnb20 := NB897_889.out; have hnc20 := NB889_897.out; have hnb21 := NB897_890.out; have hnc21 := NB890_897.out; have hnb22 := NB897_891.out; have hnc22 := NB891_897.out; obtain ⟨z23_0, z23_1, z23_2, y23_0, y23_1, y23_2⟩ := bc3_ BK897.out; obtain ⟨Ao24, co24, eo24⟩ := Kd.S_slice HO896.out; subst eo24; have hnb25 := NB890_891.out; have hnc25 := NB891_890.out; obtain ⟨z26_0, z26_1, z26_2, z26_3, y26_0, y26_1, y26_2, y26_3⟩ := bc4_ BK890.out) | ((with_reducible refine gate_callee (f := 60) rfl ?_); refine gl_ (some 21) Try.func60 #[.slice A1_0 l1_0.length c1_0] ?_; (with_reducible refine (impl_Finger.calls k _ _ l1_0 t898 _ ?side1 ?side2 A4.out).mono ?_); (case side1 => exact Kd.C_below HR1_0.out (hs_ HB.out)); (case side2 => exact HC1_0.out); rintro e w27 ⟨rfl, hb⟩; refine ⟨_, rfl, ?_⟩; replace HO896 := Aside0.mk (Kd.S_below (by (with_reducible repeat (first | apply Kd.S_alloc | apply Kd.S_drewN | apply Kd.S_drew)); exact (Kd.S_mono (sf_ gb897 (Kd.S_types HO896.out BK897.out (by decide)) (fun _ hk => hk.2)) (fun _ h_ => h_.1))) hb); replace BK889 := bk2_ BK889 hb; replace BK890 := bk2_ BK890 hb; replace BK891 := bk2_ BK891 hb; replace BK897 := Aside0.mk (blk_below (g := gb897) (o := .cells #[.int .i64 t892, .int .i64 (wrap64 (t893 + 1)), .slice Ao24 t894.length co24] 57 (0, 0)) (bp_ BK897.out) hb); replace HB := st_ HB hb; (try clear hb); (try clear hk); obtain ⟨z28_0, z28_1, z28_2, y28_0, y28_1, y28_2⟩ := bc3_ BK889.out) | ((with_reducible refine gate_callee (f := 78) rfl ?_); refine gl_ (some 24) Try.func78 #[.agg #[.int .i64 a0_0, .int .i64 a0_1, .slice A0_2 l0_2.length c0_2], .int .i64 t898] ?_; (with_reducible refine (impl_chainOf.calls k a0_0 a0_1 _ _ l0_2 t898 t899 _ ?side1 ?side2 A5.out).mono ?_); (case side1 => exact cp_ ((Kd.C_below HR0_2.out HB.out))); (case side2 => exact HC0_2.out); rintro e w29 ⟨rfl, hb⟩; refine ⟨_, rfl, ?_⟩; replace HO896 := Aside0.mk (Kd.S_below (sp_ HO896.out) hb); replace BK889 := bk2_ BK889 hb; replace BK890 := bk2_ BK890 hb; replace BK891 := bk2_ BK891 hb; replace BK897 := bk2_ BK897 hb; replace HB := st_ HB hb; (try clear hb); (try clear hk)))
     replace HO896 := Aside0.mk (Kd.S_drew HO896.out)
     replace BK889 := Aside0.mk (blk_drew BK889.out)
     replace BK890 := Aside0.mk (blk_drew BK890.out)
     replace BK891 := Aside0.mk (blk_drew BK891.out)
     replace BK897 := Aside0.mk (blk_drew BK897.out)
     replace HB := Aside0.mk (bd_ HB.out)
     have p900 : 0 ≤ (t899 : Int) := of_decide_eq_true (by with_reducible assumption)
     have q900 : t899 < (l0_2.length : Int) := of_decide_eq_true (by with_reducible assumption)
     obtain ⟨ad900, A900_1, c900_1, e900, hx900_0, hx900_1, hl900_1, hi900_1⟩ := at_T100 HR0_2.out t899 p900 q900
     have hw900_1 := hx900_1
     have hw900_0 := hx900_0
     cases e900
     replace hx900_0 := cl_ HB.out hx900_0
     replace hx900_1 := cl_ HB.out hx900_1
     have HR900_1 := Aside0.mk hi900_1
     have HC900_1 := Aside0.mk hl900_1
     clear hi900_1 hl900_1
     replace p900 := eq_true p900
     replace q900 := eq_true q900
     refine start_ (n := 13) (S := fun w' => w'.cell? ⟨gb889, 0, none⟩ = some (.int .i64 a0_0) ∧ w'.cell? ⟨gb889, 1, none⟩ = some (.int .i64 a0_1) ∧ w'.cell? ⟨gb889, 2, none⟩ = some (.slice (some ad900) l0_2.length c0_2) ∧ w'.cell? ⟨gb890, 0, none⟩ = some (.slice A1_0 l1_0.length c1_0) ∧ w'.cell? ⟨gb890, 1, none⟩ = some (.int .i64 a1_1) ∧ w'.cell? ⟨gb890, 2, none⟩ = some (.int .i64 a1_2) ∧ w'.cell? ⟨gb890, 3, none⟩ = some (.string a1_3) ∧ w'.cell? (ad900.add ((t899).toNat * 2)) = some (.int .i64 ((rd_T100 l0_2 t899).f0)) ∧ w'.cell? ⟨(ad900.add ((t899).toNat * 2)).block, (ad900.add ((t899).toNat * 2)).off + 1, none⟩ = some (.slice A900_1 ((rd_T100 l0_2 t899).f1).length c900_1)) (ds := []) #[f_,f_,f_,f_,f_,f_,f_,f_,f_,f_,f_,f_,f_] (by kernel_rfl) rfl rfl ⟨bx_ BK889.out 0, bx_ BK889.out 1, bx_ BK889.out 2, bx_ BK890.out 0, bx_ BK890.out 1, bx_ BK890.out 2, bx_ BK890.out 3, ((HB.out.cell (World.block_lt_of_cell? w _ hw900_0)).trans hw900_0), ((HB.out.cell (World.block_lt_of_cell? w _ hw900_1)).trans hw900_1)⟩ (fun hHeld => ?_); refine with_tabW impl_PutIn.tab6 impl_PutIn.bits6 (fun HT_ HW_ => ?_)
     generalize w29.drew = w30 at HO896 BK889 BK890 BK891 BK897 HB HR900_1 hx900_0 hx900_1 hHeld ⊢
     refine pw_ 0 28 (b_ 1 12) rfl rfl HT_.out ?_
     refine pw_ 2 30 #[t_,f_,t_,f_,f_,f_,f_,f_,f_,f_,f_,f_,f_] rfl rfl HT_.out ?_
     refine take_ (i := 1) (N := some 29) (v := ?_) (a' := ?_) #[t_,t_,t_,f_,f_,f_,f_,f_,f_,f_,f_,f_,f_] rfl rfl (take_ofW HT_.out HW_.out (by kernel_rfl)) (fun _ _ _ h => h) (Or.inl ⟨by rfl, ?_⟩) hHeld ?_ ?_
     rotate_left
     ·
      rintro w' ⟨s0, s1, s2, s3, s4, s5, s6, s7, s8⟩
      go_simp
      with_reducible rfl
     rotate_left
     ·
      simp only [fr_]
      rfl
     refine pw_ 3 31 (b_ 4 9) rfl rfl HT_.out ?_
     refine take_ (i := 4) (N := some 32) (v := ?_) (a' := ?_) #[t_,t_,t_,t_,t_,f_,f_,f_,f_,f_,f_,f_,f_] rfl rfl (take_ofW HT_.out HW_.out (by kernel_rfl)) (fun _ _ _ h => h) (Or.inl ⟨by rfl, ?_⟩) hHeld ?_ ?_
     rotate_left
     ·
      rintro w' ⟨s0, s1, s2, s3, s4, s5, s6, s7, s8⟩
      go_simp
      with_reducible rfl
     rotate_left
     ·
      simp only [fr_]
      rfl
     refine take_ (i := 5) (N := some 33) (v := ?_) (a' := ?_) #[t_,t_,t_,t_,t_,t_,f_,f_,f_,f_,f_,f_,f_] rfl rfl (take_ofW HT_.out HW_.out (by kernel_rfl)) (fun _ _ _ h => h) (Or.inl ⟨by rfl, ?_⟩) hHeld ?_ ?_
     rotate_left
     ·
      rintro w' ⟨s0, s1, s2, s3, s4, s5, s6, s7, s8⟩
      go_simp
      with_reducible rfl
     rotate_left
     ·
      simp only [fr_]
      rfl
     refine join_ (σ := Value × Nat × Nat) 2 #[t_,t_,t_,t_,t_,t_,t_,t_,t_,t_,t_,f_,f_] (fun s_ => [(34, .tuple #[.agg #[.int .i64 t901, s_.1], .bool t905]), (9, .pointer (some ⟨s_.2.2, 0, none⟩)), (27, .tuple #[.agg #[.int .i64 t901, s_.1], .bool t905]), (35, .agg #[.int .i64 t901, s_.1]), (36, .bool t905)]) (fun s_ w' => (w'.cell? ⟨gb889, 0, none⟩ = some (.int .i64 a0_0) ∧ w'.cell? ⟨gb889, 1, none⟩ = some (.int .i64 a0_1) ∧ w'.cell? ⟨gb889, 2, none⟩ = some (.slice (some ad900) l0_2.length c0_2) ∧ w'.cell? ⟨gb890, 0, none⟩ = some (.slice A1_0 l1_0.length c1_0) ∧ w'.cell? ⟨gb890, 1, none⟩ = some (.int .i64 a1_1) ∧ w'.cell? ⟨gb890, 2, none⟩ = some (.int .i64 a1_2) ∧ w'.cell? ⟨gb890, 3, none⟩ = some (.string a1_3) ∧ w'.cell? (ad900.add ((t899).toNat * 2)) = some (.int .i64 ((rd_T100 l0_2 t899).f0)) ∧ w'.cell? ⟨(ad900.add ((t899).toNat * 2)).block, (ad900.add ((t899).toNat * 2)).off + 1, none⟩ = some (.slice A900_1 ((rd_T100 l0_2 t899).f1).length c900_1)) ∧ (Kd.S k100 100 w' w.heap.size (fun k_ => k_ ≠ gb890 ∧ k_ ≠ s_.2.2 ∧ gbz895 ≤ k_ ∧ k_ < gb897 ∧ k_ < s_.2.1) (.slice Ao24 t894.length co24) t894) ∧ (Kd.S k43 43 w' w.heap.size (fun k_ => k_ ≠ gb890 ∧ s_.2.1 ≤ k_) s_.1 t902) ∧ (w'.heap[gb889]? = some (.cells #[.int .i64 a0_0, .int .i64 a0_1, .slice (some ad900) l0_2.length c0_2] 57 (0, 0))) ∧ (w'.heap[gb890]? = some (.cells #[.slice A1_0 l1_0.length c1_0, .int .i64 a1_1, .int .i64 a1_2, .string a1_3] 43 (0, 0))) ∧ (w'.heap[gb891]? = some (.cells #[.int .i64 0, .int .i64 0, .slice none 0 0] 57 (0, 0))) ∧ (w'.heap[gb897]? = some (.cells #[.int .i64 t892, .int .i64 (wrap64 (t893 + 1)), .slice Ao24 t894.length co24] 57 (0, 0))) ∧ (w'.heap[s_.2.2]? = some (.cells #[.int .i64 0, .slice none 0 0] 100 (0, 0))) ∧ (w.heap.size ≤ s_.2.2) ∧ (w.heap.size ≤ s_.2.2) ∧ (gb889 ≠ s_.2.2) ∧ (s_.2.2 ≠ gb889) ∧ (gb890 ≠ s_.2.2) ∧ (s_.2.2 ≠ gb890) ∧ (gb891 ≠ s_.2.2) ∧ (s_.2.2 ≠ gb891) ∧ (gb897 ≠ s_.2.2) ∧ (s_.2.2 ≠ gb897) ∧ (Below w.heap.size w w')) ?_ ?_
     rotate_left
     ·
      intro hCont
      refine two_ (i := 6) (j := 10) (Ni := some 34) (Nj := some 9) #[t_,t_,t_,t_,t_,t_,t_,f_,f_,f_,f_,f_,f_] #[t_,t_,t_,t_,t_,t_,f_,f_,f_,f_,t_,f_,f_] rfl rfl rfl rfl (two_of HT_.out (by kernel_rfl)) (by decide) (by decide) (fun K hK => ?_) (fun K hK => ?_)
      ·
       skip
       refine gs_ Try.func87 #[.agg #[.int .i64 ((rd_T100 l0_2 t899).f0), .slice A900_1 ((rd_T100 l0_2 t899).f1).length c900_1], .agg #[.slice A1_0 l1_0.length c1_0, .int .i64 a1_1, .int .i64 a1_2, .string a1_3]] ?_
       with_reducible refine (impl_PutChain.calls k ((rd_T100 l0_2 t899).f0) _ _ ((rd_T100 l0_2 t899).f1) _ _ l1_0 a1_1 a1_2 a1_3 t901 t902 t905 _ ?side1 ?side2 ?side3 ?side4 A9.out).mono ?_
       (case side1 => exact cp_ ((Kd.C_below HR900_1.out HB.out)))
       (case side2 => exact HC900_1.out)
       (case side3 => exact cp_ ((Kd.C_below HR1_0.out HB.out)))
       (case side4 => exact HC1_0.out)
       rintro e w31 ⟨v903, rfl, ho0, hb⟩
       refine ⟨_, rfl, ?_⟩
       obtain ⟨gbz903, hz903⟩ := Kd.S_name ho0
       replace HO896 := Aside0.mk (Kd.S_below (Kd.S_ltz hz903 (sp_ HO896.out)) hb)
       have HO904 := Aside0.mk (Kd.S_lower (Kd.S_newB (Kd.S_gez hz903 ho0) (g := gb890) (o := .cells #[.slice A1_0 l1_0.length c1_0, .int .i64 a1_1, .int .i64 a1_2, .string a1_3] 43 (0, 0)) (pb_ BK890.out)) (below_size (hs_ HB.out)))
       replace BK889 := bk2_ BK889 hb
       replace BK890 := bk2_ BK890 hb
       replace BK891 := bk2_ BK891 hb
       replace BK897 := bk2_ BK897 hb
       replace HB := st_ HB hb
       (try clear hb)
       (try clear hk)
       (try clear ho0)
       refine hK.out _ _ ⟨bx_ BK889.out 0, bx_ BK889.out 1, bx_ BK889.out 2, bx_ BK890.out 0, bx_ BK890.out 1, bx_ BK890.out 2, bx_ BK890.out 3, ((HB.out.cell (World.block_lt_of_cell? w _ hw900_0)).trans hw900_0), ((HB.out.cell (World.block_lt_of_cell? w _ hw900_1)).trans hw900_1)⟩ (fun hHeld => ?_)
       clear hK K
       refine norm_ (a' := ?_) ?_ ?_
       rotate_left
       ·
        show Act.put _ (some 34) _ = _
        simp only [fr_]
        rfl
       refine pw_ 7 27 (b_ 8 5) rfl rfl HT_.out ?_
       refine pw_ 8 35 (b_ 9 4) rfl rfl HT_.out ?_
       refine pw_ 9 36 (b_ 10 3) rfl rfl HT_.out ?_
       refine one_ (i := 10) (N := some 9) #[t_,t_,t_,t_,t_,t_,t_,t_,t_,t_,t_,f_,f_] rfl rfl (one_of HT_.out (by kernel_rfl)) (by decide) (fun K hK => ?_)
       refine bs1_ 9 #[.int .i64 0, .slice none 0 0] 100 ?_
       intro gb906 hg w32 hbox hb
       replace HO896 := Aside0.mk (Kd.S_below (Kd.S_elderB (sp_ HO896.out) gb906 (Nat.le_of_eq hg.symm)) hb)
       replace HO904 := Aside0.mk (Kd.S_below (sp_ HO904.out) hb)
       have BK906 := Aside0.mk (hbox)
       have GW906 := Aside0.mk ((gw_ hg (hs_ HB.out)))
       have GE906 := Ge_.mk ((gw_ hg (hs_ HB.out)))
       replace HB := st_ HB hb
       have NB889_906 := Ne_.mk (nl_ BK889.out hg)
       have NB906_889 := Ne_.mk (ng_ BK889.out hg)
       replace BK889 := bk2_ BK889 hb
       have NB890_906 := Ne_.mk (nl_ BK890.out hg)
       have NB906_890 := Ne_.mk (ng_ BK890.out hg)
       replace BK890 := bk2_ BK890 hb
       have NB891_906 := Ne_.mk (nl_ BK891.out hg)
       have NB906_891 := Ne_.mk (ng_ BK891.out hg)
       replace BK891 := bk2_ BK891 hb
       have NB897_906 := Ne_.mk (nl_ BK897.out hg)
       have NB906_897 := Ne_.mk (ng_ BK897.out hg)
       replace BK897 := bk2_ BK897 hb
       clear hb hbox hg
       refine hK.out _ _ ⟨bx_ BK889.out 0, bx_ BK889.out 1, bx_ BK889.out 2, bx_ BK890.out 0, bx_ BK890.out 1, bx_ BK890.out 2, bx_ BK890.out 3, ((HB.out.cell (World.block_lt_of_cell? w _ hw900_0)).trans hw900_0), ((HB.out.cell (World.block_lt_of_cell? w _ hw900_1)).trans hw900_1)⟩ (fun hHeld => ?_)
       clear hK K
       refine norm_ (a' := ?_) ?_ ?_
       rotate_left
       ·
        show Act.put _ (some 9) _ = _
        simp only [fr_]
        rfl
       exact norm_ (by simp only [putAll, fr_]) (hCont (v903, gbz903, gb906) _ ⟨hHeld, (Kd.S_mono (sp_ HO896.out) (fun _ hk => ⟨hk.1.1.1.2, ⟨hk.2, ⟨hk.1.1.1.1.2, ⟨hk.1.1.2, hk.1.2⟩⟩⟩⟩)), (Kd.S_mono (sp_ HO904.out) (fun _ hk => ⟨hk.2, hk.1.2⟩)), (pb_ BK889.out), (pb_ BK890.out), (pb_ BK891.out), (pb_ BK897.out), (pb_ BK906.out), GW906.out, GE906.out, NB889_906.out, NB906_889.out, NB890_906.out, NB906_890.out, NB891_906.out, NB906_891.out, NB897_906.out, NB906_897.out, (hs_ HB.out)⟩)
      skip
      refine bs1_ 9 #[.int .i64 0, .slice none 0 0] 100 ?_
      intro gb906 hg w31 hbox hb
      replace HO896 := Aside0.mk (Kd.S_below (Kd.S_elderB (sp_ HO896.out) gb906 (Nat.le_of_eq hg.symm)) hb)
      have BK906 := Aside0.mk (hbox)
      have GW906 := Aside0.mk ((gw_ hg (hs_ HB.out)))
      have GE906 := Ge_.mk ((gw_ hg (hs_ HB.out)))
      replace HB := st_ HB hb
      have NB889_906 := Ne_.mk (nl_ BK889.out hg)
      have NB906_889 := Ne_.mk (ng_ BK889.out hg)
      replace BK889 := bk2_ BK889 hb
      have NB890_906 := Ne_.mk (nl_ BK890.out hg)
      have NB906_890 := Ne_.mk (ng_ BK890.out hg)
      replace BK890 := bk2_ BK890 hb
      have NB891_906 := Ne_.mk (nl_ BK891.out hg)
      have NB906_891 := Ne_.mk (ng_ BK891.out hg)
      replace BK891 := bk2_ BK891 hb
      have NB897_906 := Ne_.mk (nl_ BK897.out hg)
      have NB906_897 := Ne_.mk (ng_ BK897.out hg)
      replace BK897 := bk2_ BK897 hb
      clear hb hbox hg
      refine hK.out _ _ ⟨bx_ BK889.out 0, bx_ BK889.out 1, bx_ BK889.out 2, bx_ BK890.out 0, bx_ BK890.out 1, bx_ BK890.out 2, bx_ BK890.out 3, ((HB.out.cell (World.block_lt_of_cell? w _ hw900_0)).trans hw900_0), ((HB.out.cell (World.block_lt_of_cell? w _ hw900_1)).trans hw900_1)⟩ (fun hHeld => ?_)
      clear hK K
      refine norm_ (a' := ?_) ?_ ?_
      rotate_left
      ·
       show Act.put _ (some 9) _ = _
       simp only [fr_]
       rfl
      refine one_ (i := 6) (N := some 34) #[t_,t_,t_,t_,t_,t_,t_,f_,f_,f_,t_,f_,f_] rfl rfl (one_of HT_.out (by kernel_rfl)) (by decide) (fun K hK => ?_)
      refine gs_ Try.func87 #[.agg #[.int .i64 ((rd_T100 l0_2 t899).f0), .slice A900_1 ((rd_T100 l0_2 t899).f1).length c900_1], .agg #[.slice A1_0 l1_0.length c1_0, .int .i64 a1_1, .int .i64 a1_2, .string a1_3]] ?_
      with_reducible refine (impl_PutChain.calls k ((rd_T100 l0_2 t899).f0) _ _ ((rd_T100 l0_2 t899).f1) _ _ l1_0 a1_1 a1_2 a1_3 t901 t902 t905 _ ?side1 ?side2 ?side3 ?side4 A9.out).mono ?_
      (case side1 => exact cp_ ((Kd.C_below HR900_1.out HB.out)))
      (case side2 => exact HC900_1.out)
      (case side3 => exact cp_ ((Kd.C_below HR1_0.out HB.out)))
      (case side4 => exact HC1_0.out)
      rintro e w32 ⟨v903, rfl, ho0, hb⟩
      refine ⟨_, rfl, ?_⟩
      obtain ⟨gbz903, hz903⟩ := Kd.S_name ho0
      replace HO896 := Aside0.mk (Kd.S_below (Kd.S_ltz hz903 (sp_ HO896.out)) hb)
      have HO904 := Aside0.mk (Kd.S_lower (Kd.S_newB (Kd.S_gez hz903 ho0) (g := gb890) (o := .cells #[.slice A1_0 l1_0.length c1_0, .int .i64 a1_1, .int .i64 a1_2, .string a1_3] 43 (0, 0)) (pb_ BK890.out)) (below_size (hs_ HB.out)))
      replace BK889 := bk2_ BK889 hb
      replace BK890 := bk2_ BK890 hb
      replace BK891 := bk2_ BK891 hb
      replace BK897 := bk2_ BK897 hb
      replace BK906 := bk2_ BK906 hb
      replace HB := st_ HB hb
      (try clear hb)
      (try clear hk)
      (try clear ho0)
      refine hK.out _ _ ⟨bx_ BK889.out 0, bx_ BK889.out 1, bx_ BK889.out 2, bx_ BK890.out 0, bx_ BK890.out 1, bx_ BK890.out 2, bx_ BK890.out 3, ((HB.out.cell (World.block_lt_of_cell? w _ hw900_0)).trans hw900_0), ((HB.out.cell (World.block_lt_of_cell? w _ hw900_1)).trans hw900_1)⟩ (fun hHeld => ?_)
      clear hK K
      refine norm_ (a' := ?_) ?_ ?_
      rotate_left
      ·
       show Act.put _ (some 34) _ = _
       simp only [fr_]
       rfl
      refine pw_ 7 27 #[t_,t_,t_,t_,t_,t_,t_,t_,f_,f_,t_,f_,f_] rfl rfl HT_.out ?_
      refine pw_ 8 35 #[t_,t_,t_,t_,t_,t_,t_,t_,t_,f_,t_,f_,f_] rfl rfl HT_.out ?_
      refine pw_ 9 36 (b_ 11 2) rfl rfl HT_.out ?_
      exact norm_ (by simp only [putAll, fr_]) (hCont (v903, gbz903, gb906) _ ⟨hHeld, (Kd.S_mono (sp_ HO896.out) (fun _ hk => ⟨hk.1.1.1.2, ⟨hk.1.2, ⟨hk.1.1.1.1.2, ⟨hk.1.1.2, hk.2⟩⟩⟩⟩)), (Kd.S_mono (sp_ HO904.out) (fun _ hk => ⟨hk.2, hk.1.2⟩)), (pb_ BK889.out), (pb_ BK890.out), (pb_ BK891.out), (pb_ BK897.out), (pb_ BK906.out), GW906.out, GE906.out, NB889_906.out, NB906_889.out, NB890_906.out, NB906_890.out, NB891_906.out, NB906_891.out, NB897_906.out, NB906_897.out, (hs_ HB.out)⟩)
     rintro ⟨v903, gbz903, gb906⟩ w33 ⟨hS_, h0_, h1_, h2_, h3_, h4_, h5_, h6_, h7_, h8_, h9_, h10_, h11_, h12_, h13_, h14_, h15_, h16_, h17_⟩
     replace HO896 : Aside0 (Kd.S k100 100 w33 w.heap.size (fun k_ => k_ ≠ gb890 ∧ k_ ≠ gb906 ∧ gbz895 ≤ k_ ∧ k_ < gb897 ∧ k_ < gbz903) (.slice Ao24 t894.length co24) t894) := ⟨h0_⟩
     have HO904 : Aside0 (Kd.S k43 43 w33 w.heap.size (fun k_ => k_ ≠ gb890 ∧ gbz903 ≤ k_) v903 t902) := ⟨h1_⟩
     replace BK889 : Aside0 (w33.heap[gb889]? = some (.cells #[.int .i64 a0_0, .int .i64 a0_1, .slice (some ad900) l0_2.length c0_2] 57 (0, 0))) := ⟨h2_⟩
     replace BK890 : Aside0 (w33.heap[gb890]? = some (.cells #[.slice A1_0 l1_0.length c1_0, .int .i64 a1_1, .int .i64 a1_2, .string a1_3] 43 (0, 0))) := ⟨h3_⟩
     replace BK891 : Aside0 (w33.heap[gb891]? = some (.cells #[.int .i64 0, .int .i64 0, .slice none 0 0] 57 (0, 0))) := ⟨h4_⟩
     replace BK897 : Aside0 (w33.heap[gb897]? = some (.cells #[.int .i64 t892, .int .i64 (wrap64 (t893 + 1)), .slice Ao24 t894.length co24] 57 (0, 0))) := ⟨h5_⟩
     have BK906 : Aside0 (w33.heap[gb906]? = some (.cells #[.int .i64 0, .slice none 0 0] 100 (0, 0))) := ⟨h6_⟩
     have GW906 : Aside0 (w.heap.size ≤ gb906) := ⟨h7_⟩
     have GE906 := Ge_.mk h8_
     have NB889_906 := Ne_.mk h9_
     have NB906_889 := Ne_.mk h10_
     have NB890_906 := Ne_.mk h11_
     have NB906_890 := Ne_.mk h12_
     have NB891_906 := Ne_.mk h13_
     have NB906_891 := Ne_.mk h14_
     have NB897_906 := Ne_.mk h15_
     have NB906_897 := Ne_.mk h16_
     replace HB : Aside0 (Below w.heap.size w w33) := ⟨h17_⟩
     clear h0_ h1_ h2_ h3_ h4_ h5_ h6_ h7_ h8_ h9_ h10_ h11_ h12_ h13_ h14_ h15_ h16_ h17_
     have hHeld : w33.cell? ⟨gb889, 0, none⟩ = some (.int .i64 a0_0) ∧ w33.cell? ⟨gb889, 1, none⟩ = some (.int .i64 a0_1) ∧ w33.cell? ⟨gb889, 2, none⟩ = some (.slice (some ad900) l0_2.length c0_2) ∧ w33.cell? ⟨gb890, 0, none⟩ = some (.slice A1_0 l1_0.length c1_0) ∧ w33.cell? ⟨gb890, 1, none⟩ = some (.int .i64 a1_1) ∧ w33.cell? ⟨gb890, 2, none⟩ = some (.int .i64 a1_2) ∧ w33.cell? ⟨gb890, 3, none⟩ = some (.string a1_3) ∧ w33.cell? (ad900.add ((t899).toNat * 2)) = some (.int .i64 ((rd_T100 l0_2 t899).f0)) ∧ w33.cell? ⟨(ad900.add ((t899).toNat * 2)).block, (ad900.add ((t899).toNat * 2)).off + 1, none⟩ = some (.slice A900_1 ((rd_T100 l0_2 t899).f1).length c900_1) := hS_
     obtain ⟨Ao35, co35, eo35⟩ := Kd.S_slice HO904.out
     (first | subst eo35 | (obtain ⟨rfl, rfl⟩ := si_ eo35))
     refine norm_ (a' := ?_) ?_ ?_
     rotate_left
     ·
      simp only [putAll, fr_]
      rfl
     refine one_ (i := 11) (N := none) #[t_,t_,t_,t_,t_,t_,t_,t_,t_,t_,t_,t_,f_] rfl rfl (one_of HT_.out (by kernel_rfl)) (by decide) (fun K hK => ?_)
     have hs34 : w33.cell? ⟨gb906, 0, none⟩ = some (.int .i64 0) := bx_ BK906.out 0
     have hfs34 := blk_frozen BK906.out 0
     have hns34_0 := NB889_906.out
     have hns34_1 := NB890_906.out
     have hns34_2 := NB891_906.out
     have hns34_3 := NB897_906.out
     have hms34_0 := NB906_889.out
     have hms34_1 := NB906_890.out
     have hms34_2 := NB906_891.out
     have hms34_3 := NB906_897.out
     have hs36 : w33.cell? ⟨gb906, 1, none⟩ = some (.slice none 0 0) := bx_ BK906.out 1
     have hfs36 := blk_frozen BK906.out 1
     have hns36_0 := NB889_906.out
     have hns36_1 := NB890_906.out
     have hns36_2 := NB891_906.out
     have hns36_3 := NB897_906.out
     have hms36_0 := NB906_889.out
     have hms36_1 := NB906_890.out
     have hms36_2 := NB906_891.out
     have hms36_3 := NB906_897.out
     refine skip_ (w1 := ?_) (by rfl) rfl ?_ ?_
     rotate_left
     ·
      go_simp
      rfl
     refine hK.out _ _ ⟨(cg_ (hHeld.1)), (cg_ (hHeld.2.1)), (cg_ (hHeld.2.2.1)), (cg_ (hHeld.2.2.2.1)), (cg_ (hHeld.2.2.2.2.1)), (cg_ (hHeld.2.2.2.2.2.1)), (cg_ (hHeld.2.2.2.2.2.2.1)), (ce_ hw900_0 GW906.out ((ce_ hw900_0 GW906.out (hHeld.2.2.2.2.2.2.2.1)))), (ce_ hw900_1 GW906.out ((ce_ hw900_1 GW906.out (hHeld.2.2.2.2.2.2.2.2))))⟩ (fun hHeld => ?_)
     clear hK K
     refine pw_ 12 10 (b_ 13 0) rfl rfl HT_.out ?_
     refine done_ (done_of HT_.out (by kernel_rfl)) ?_
     generalize hw_ : ((w33.setCell ⟨gb906, 0, none⟩ (.int .i64 t901)).setCell ⟨gb906, 1, none⟩ (.slice Ao35 t902.length co35)) = w37
     have n0_ : Aside0 (Kd.S k100 100 w37 w.heap.size (fun k_ => k_ ≠ gb890 ∧ k_ ≠ gb906 ∧ gbz895 ≤ k_ ∧ k_ < gb897 ∧ k_ < gbz903) (.slice Ao24 t894.length co24) t894) := ⟨by rw [← hw_]; exact (Kd.S_mono (sf_ gb906 (Kd.S_mono HO896.out (fun k_ hk => (⟨hk, hk.2.1⟩ : _ ∧ k_ ≠ gb906))) (fun _ hk => hk.2)) (fun _ hk => ⟨hk.1.1, ⟨hk.1.2.1, ⟨hk.1.2.2.1, ⟨hk.1.2.2.2.1, hk.1.2.2.2.2⟩⟩⟩⟩))⟩
     have n1_ : Aside0 (Kd.S k43 43 w37 w.heap.size (fun k_ => k_ ≠ gb890 ∧ gbz903 ≤ k_) (.slice Ao35 t902.length co35) t902) := ⟨by rw [← hw_]; exact (Kd.S_mono (sf_ gb906 (Kd.S_types HO904.out BK906.out (by decide)) (fun _ hk => hk.2)) (fun _ hk => ⟨hk.1.1, hk.1.2⟩))⟩
     have n2_ : Aside0 (w37.heap[gb889]? = some (.cells #[.int .i64 a0_0, .int .i64 a0_1, .slice (some ad900) l0_2.length c0_2] 57 (0, 0))) := ⟨by rw [← hw_]; exact (bq_ BK889.out)⟩
     have n3_ : Aside0 (w37.heap[gb890]? = some (.cells #[.slice A1_0 l1_0.length c1_0, .int .i64 a1_1, .int .i64 a1_2, .string a1_3] 43 (0, 0))) := ⟨by rw [← hw_]; exact (bq_ BK890.out)⟩
     have n4_ : Aside0 (w37.heap[gb891]? = some (.cells #[.int .i64 0, .int .i64 0, .slice none 0 0] 57 (0, 0))) := ⟨by rw [← hw_]; exact (bq_ BK891.out)⟩
     have n5_ : Aside0 (w37.heap[gb897]? = some (.cells #[.int .i64 t892, .int .i64 (wrap64 (t893 + 1)), .slice Ao24 t894.length co24] 57 (0, 0))) := ⟨by rw [← hw_]; exact (bq_ BK897.out)⟩
     have n6_ : Aside0 (w37.heap[gb906]? = some (.cells #[.int .i64 t901, .slice Ao35 t902.length co35] 100 (0, 0))) := ⟨by rw [← hw_]; exact (bp_ BK906.out)⟩
     have n7_ : Aside0 (Below w.heap.size w w37) := ⟨by rw [← hw_]; exact (hs_ HB.out)⟩
     clear hw_
     (try clear HO896)
     (try clear HO904)
     (try clear BK889)
     (try clear BK890)
     (try clear BK891)
     (try clear BK897)
     (try clear BK906)
     (try clear HB)
     have HO896 := n0_
     have HO904 := n1_
     have BK889 := n2_
     have BK890 := n3_
     have BK891 := n4_
     have BK897 := n5_
     have BK906 := n6_
     have HB := n7_
     clear n0_ n1_ n2_ n3_ n4_ n5_ n6_ n7_
     have hnb38 := NB897_906.out
     have hnc38 := NB906_897.out
     obtain ⟨z39_0, z39_1, z39_2, y39_0, y39_1, y39_2⟩ := bc3_ BK897.out
     have hnb40 := NB906_889.out
     have hnc40 := NB889_906.out
     have hnb41 := NB906_890.out
     have hnc41 := NB890_906.out
     have hnb42 := NB906_891.out
     have hnc42 := NB891_906.out
     obtain ⟨z43_0, z43_1, y43_0, y43_1⟩ := bc2_ BK906.out
     have p11 : 0 ≤ (t899 : Int) := of_decide_eq_true (by with_reducible assumption)
     have q11 : (t899 : Int) < ((t894.length : Int) : Int) := of_decide_eq_true (by with_reducible assumption)
     obtain ⟨go11, co11, eo11, gb11, gl11, cl11, HG11⟩ := Kd.S_form HO896.out (by omega)
     (first | cases eo11 | (injection eo11 with ea_ en_ ec_; (first | subst ea_ | (injection ea_ with ea_; subst ea_)); subst ec_; clear en_))
     have GB11 := Aside0.mk gb11
     have GG11 := Aside0.mk HG11
     clear gb11 gl11 HG11
     obtain ⟨_, ce11, hcl11, hM11, hcc11, hfr11, _, _⟩ := Kd.S_elem HO896.out z100 (t899 : Int) p11 q11
     obtain ⟨ve11_1, rfl, ge11_1⟩ := k100_openM hM11
     have hx11_0 : w37.cell? ⟨go11, (t899 : Int).toNat * 2, none⟩ = some (.int .i64 ((rd_T100 t894 t899).f0)) := hcc11 0 _ rfl
     have hx11_1 : w37.cell? ⟨go11, (t899 : Int).toNat * 2 + 1, none⟩ = some (ve11_1) := hcc11 1 _ rfl
     have hf11_0 : w37.frozen? ⟨go11, (t899 : Int).toNat * 2, none⟩ = false := hfr11 0
     have hf11_1 : w37.frozen? ⟨go11, (t899 : Int).toNat * 2 + 1, none⟩ = false := hfr11 1
     clear hcl11 hcc11 hfr11 hM11
     replace p11 := eq_true p11
     replace q11 := eq_true q11
     obtain ⟨PXP46, hPXP46, hPlP46⟩ := Kd.S_fp (Kd.S_types (Kd.S_apart' (HO904.out) (Kd.S_typed HO896.out) (by decide)) BK906.out (by decide))
     have HX44 := Aside0.mk (show Kd.S k100 100 w37 w.heap.size (fun k_ => ((fun k_ => k_ ≠ gb890 ∧ k_ ≠ gb906)) k_ ∧ ¬ ((fun k_ => PXP46 k_)) k_) (.slice (some ⟨go11, 0, none⟩) t894.length co24) t894 from (Kd.S_mono (sp_ HO896.out) (fun k_ hk => ⟨⟨hk.1, hk.2.1⟩, fun e_ => (fun ez_ => Nat.lt_irrefl _ (Nat.lt_of_lt_of_le hk.2.2.2.2 (hPlP46 _ ez_).1.1.1.2)) e_⟩)))
     obtain ⟨oki44, ce44, hcl44, hM44, hcc44, hfr44, hoki44, hH44⟩ := Kd.S_elem HX44.out z100 (t899 : Int) (of_decide_eq_true (by with_reducible assumption)) (by have h_ : (t899 : Int) < ((t894.length : Int) : Int) := of_decide_eq_true (by with_reducible assumption); first | exact h_ | (have e_ := (Kd.S_reads' HO896.out).1; omega) | simpa using h_)
     obtain ⟨ve44_1, rfl, ge44_1⟩ := k100_openM hM44
     have HP44 := Kd.S_seg hH44 (of_decide_eq_true (by with_reducible assumption)) (by have h_ : (t899 : Int) < ((t894.length : Int) : Int) := of_decide_eq_true (by with_reducible assumption); first | exact h_ | (have e_ := (Kd.S_reads' HO896.out).1; omega) | simpa using h_) (seg := [.int .i64 t901, .slice Ao35 t902.length co35]) (j := 0) (show 2 ≤ 2 from by decide) (x' := (⟨t901, t902⟩ : S100)) (k100_mkM _ _ _ (⟨t901, t902⟩ : S100) (Kd.S_mono hPXP46 (fun _ h_ => Or.inr (h_)))) (fun _ hk => hk) (fun k_ hk_ => ⟨⟨(hPlP46 k_ hk_).1.1.1.1, (hPlP46 k_ hk_).1.2⟩, fun e_ => ((hPlP46 k_ hk_).1.1.2) (by rw [e_]; rfl)⟩)
     have hx44_0 := hcc44 0 _ rfl
     (try simp only [show (k100).sz = 2 from rfl, Nat.mul_one, Nat.add_zero] at hx44_0)
     have hf44_0 := hfr44 0
     (try simp only [show (k100).sz = 2 from rfl, Nat.mul_one, Nat.add_zero] at hf44_0)
     have hx44_1 := hcc44 1 _ rfl
     (try simp only [show (k100).sz = 2 from rfl, Nat.mul_one, Nat.add_zero] at hx44_1)
     have hf44_1 := hfr44 1
     (try simp only [show (k100).sz = 2 from rfl, Nat.mul_one, Nat.add_zero] at hf44_1)
     clear hcl44 hcc44 hfr44 hM44 hoki44 hH44
     try go_wp2_with (first | ((with_reducible refine gate_store (t := 100) (p := 41) rfl ?_); refine store_event (t := 100) (p := 41) (v := ?vo_w45) (w1 := ((w37.setCell ⟨go11, (t899 : Int).toNat * 2, none⟩ (.int .i64 t901)).setCell ⟨go11, (t899 : Int).toNat * 2 + 1, none⟩ (.slice Ao35 t902.length co35))) ?hg ?ho ?hn ?hr ?_; (case ho => rfl); (case hg => rfl); (case hn => rfl); (case hr => first | (go_simp; done) | (go_simp; rfl)); intro w45 hw; have hg : w37.grownBy w45 (some go11) := (by rw [hw]; exact HP44.2); have hp_ : Kd.S k100 100 w45 w.heap.size (fun k_ => k_ ≠ gb890 ∧ k_ ≠ gb906) (.slice (some ⟨go11, 0, none⟩) t894.length co24) y907 := (by rw [hw, Ny907.out]; exact HP44.1); clear HP44; replace BK889 := Aside0.mk (blk_grown (bq_ BK889.out) hg (Kd.S_ne HO896.out BK889.out (by decide))); replace BK890 := Aside0.mk (blk_grown (bq_ BK890.out) hg (Kd.S_ne HO896.out BK890.out (by decide))); replace BK891 := Aside0.mk (blk_grown (bq_ BK891.out) hg (Kd.S_ne HO896.out BK891.out (by decide))); replace BK897 := Aside0.mk (blk_grown (bq_ BK897.out) hg (Kd.S_ne HO896.out BK897.out (by decide))); replace BK906 := Aside0.mk (blk_grown (bq_ BK906.out) hg (Kd.S_away HO896.out (fun _ hk => hk.2.1))); replace HO896 := Aside0.mk (hp_); replace HB := Aside0.mk ((by rw [hw]; exact below_set (below_set (HB.out) GB11.out) GB11.out : Below w.heap.size w w45)); clear HO904; clear hg hw hp_; obtain ⟨z47_0, z47_1, z47_2, y47_0, y47_1, y47_2⟩ := bc3_ BK897.out; obtain ⟨z48_0, z48_1, z48_2, y48_0, y48_1, y48_2⟩ := bc3_ BK891.out))
     refine bodyPost_ret (results_ct rfl _ _ gb891 57 #[.int .i64 t892, .int .i64 (wrap64 (t893 + 1)), .slice (some ⟨go11, 0, none⟩) t894.length co24] (0, 0) _ rfl (bp_ BK891.out) Try.underlying57 rfl (by kernel_rfl)) rfl ?_
     exact ⟨_, by first | rfl | (simp [errW_none, errW_some] <;> rfl) | (simp [*, errW_none, errW_some] <;> rfl), by (with_reducible repeat (first | apply Kd.S_alloc | apply Kd.S_drewN | apply Kd.S_drew)); exact Kd.S_mono (sf_ gb891 (Kd.S_types HO896.out BK891.out (by decide)) (fun _ hk => hk.2)) (fun _ hk => trivial), by exact hs_ HB.out⟩
    rw [if_neg c10] at H
    exact absurd H (by simp)
   rw [if_neg c8] at H
   exact absurd H (by simp)
  rw [if_neg c7] at H
  exact absurd H (by simp)
 rw [if_neg c6] at H
 have c6b0 : decide (0 ≤ t899) = false := decide_eq_false c6
 clear c6
 have H' := Aside0.mk H
 clear H
 go_enter Try.func45, Try.ntmps45
 go_wp2_with (first | ((with_reducible refine gd_ 2 rfl ?_); refine bv_ 2 #[.int .i64 a0_0, .int .i64 a0_1, .slice A0_2 l0_2.length c0_2] 57 ?_; intro gb889 hg w49 hbox hb; have BK889 := Aside0.mk (hbox); have GW889 := Aside0.mk ((gw_ hg (hs_ HB.out))); replace HB := st_ HB hb; have GE889 := Ge_.mk GW889.out; clear hb hbox hg) | ((with_reducible refine gd_ 3 rfl ?_); refine bv_ 3 #[.slice A1_0 l1_0.length c1_0, .int .i64 a1_1, .int .i64 a1_2, .string a1_3] 43 ?_; intro gb890 hg w50 hbox hb; have BK890 := Aside0.mk (hbox); have GW890 := Aside0.mk ((gw_ hg (hs_ HB.out))); replace HB := st_ HB hb; have GE890 := Ge_.mk GW890.out; have NB889_890 := Ne_.mk (nl_ BK889.out hg); replace BK889 := bk2_ BK889 hb; have NB890_889 := Ne_.mk (NB889_890.out.symm); clear hb hbox hg) | ((with_reducible refine gd_ 4 rfl ?_); refine bv_ 4 #[.int .i64 0, .int .i64 0, .slice none 0 0] 57 ?_; intro gb891 hg w51 hbox hb; have BK891 := Aside0.mk (hbox); have GW891 := Aside0.mk ((gw_ hg (hs_ HB.out))); replace HB := st_ HB hb; have GE891 := Ge_.mk GW891.out; have NB889_891 := Ne_.mk (nl_ BK889.out hg); replace BK889 := bk2_ BK889 hb; have NB891_889 := Ne_.mk (NB889_891.out.symm); have NB890_891 := Ne_.mk (nl_ BK890.out hg); replace BK890 := bk2_ BK890 hb; have NB891_890 := Ne_.mk (NB890_891.out.symm); clear hb hbox hg; have hnb52 := NB889_890.out; have hnc52 := NB890_889.out; have hnb53 := NB889_891.out; have hnc53 := NB891_889.out; obtain ⟨z54_0, z54_1, z54_2, y54_0, y54_1, y54_2⟩ := bc3_ BK889.out) | ((with_reducible refine gate_callee (f := 86) rfl ?_); refine gl_ (some 14) Try.func86 #[.agg #[.int .i64 a0_0, .int .i64 a0_1, .slice A0_2 l0_2.length c0_2]] ?_; (with_reducible refine (impl_copyPart.calls k a0_0 a0_1 _ _ l0_2 t892 t893 t894 _ ?side1 ?side2 A3.out).mono ?_); (case side1 => exact cp_ ((Kd.C_below HR0_2.out HB.out))); (case side2 => exact HC0_2.out); rintro e w55 ⟨v895, rfl, ho0, hb⟩; refine ⟨_, rfl, ?_⟩; obtain ⟨gbz895, hz895⟩ := Kd.S_name ho0; have HO896 := Aside0.mk (Kd.S_lower (Kd.S_newB (Kd.S_gez hz895 ho0) (g := gb890) (o := .cells #[.slice A1_0 l1_0.length c1_0, .int .i64 a1_1, .int .i64 a1_2, .string a1_3] 43 (0, 0)) (pb_ BK890.out)) (below_size (hs_ HB.out))); replace BK889 := bk2_ BK889 hb; replace BK890 := bk2_ BK890 hb; replace BK891 := bk2_ BK891 hb; replace HB := st_ HB hb; (try clear hb); (try clear hk); (try clear ho0)) | ((with_reducible refine gd_ 6 rfl ?_); refine bv_ 6 #[.int .i64 0, .int .i64 0, .slice none 0 0] 57 ?_; intro gb897 hg w56 hbox hb; replace HO896 := Aside0.mk (Kd.S_below (Kd.S_ltz hg (sp_ HO896.out)) hb); have BK897 := Aside0.mk (hbox); have GW897 := Aside0.mk ((gw_ hg (hs_ HB.out))); replace HB := st_ HB hb; have GE897 := Ge_.mk GW897.out; have NB889_897 := Ne_.mk (nl_ BK889.out hg); replace BK889 := bk2_ BK889 hb; have NB897_889 := Ne_.mk (NB889_897.out.symm); have NB890_897 := Ne_.mk (nl_ BK890.out hg); replace BK890 := bk2_ BK890 hb; have NB897_890 := Ne_.mk (NB890_897.out.symm); have NB891_897 := Ne_.mk (nl_ BK891.out hg); replace BK891 := bk2_ BK891 hb; have NB897_891 := Ne_.mk (NB891_897.out.symm); clear hb hbox hg; have hnb57 := NB897_889.out; have hnc57 := NB889_897.out; have hnb58 := NB897_890.out; have hnc58 := NB890_897.out; have hnb59 := NB897_891.out; have hnc59 := NB891_897.out; obtain ⟨z60_0, z60_1, z60_2, y60_0, y60_1, y60_2⟩ := bc3_ BK897.out; obtain ⟨Ao61, co61, eo61⟩ := Kd.S_slice HO896.out; subst eo61; have hnb62 := NB890_891.out; have hnc62 := NB891_890.out; obtain ⟨z63_0, z63_1, z63_2, z63_3, y63_0, y63_1, y63_2, y63_3⟩ := bc4_ BK890.out) | ((with_reducible refine gate_callee (f := 60) rfl ?_); refine gl_ (some 21) Try.func60 #[.slice A1_0 l1_0.length c1_0] ?_; (with_reducible refine (impl_Finger.calls k _ _ l1_0 t898 _ ?side1 ?side2 A4.out).mono ?_); (case side1 => exact Kd.C_below HR1_0.out (hs_ HB.out)); (case side2 => exact HC1_0.out); rintro e w64 ⟨rfl, hb⟩; refine ⟨_, rfl, ?_⟩; replace HO896 := Aside0.mk (Kd.S_below (by (with_reducible repeat (first | apply Kd.S_alloc | apply Kd.S_drewN | apply Kd.S_drew)); exact (Kd.S_mono (sf_ gb897 (Kd.S_types HO896.out BK897.out (by decide)) (fun _ hk => hk.2)) (fun _ h_ => h_.1))) hb); replace BK889 := bk2_ BK889 hb; replace BK890 := bk2_ BK890 hb; replace BK891 := bk2_ BK891 hb; replace BK897 := Aside0.mk (blk_below (g := gb897) (o := .cells #[.int .i64 t892, .int .i64 (wrap64 (t893 + 1)), .slice Ao61 t894.length co61] 57 (0, 0)) (bp_ BK897.out) hb); replace HB := st_ HB hb; (try clear hb); (try clear hk); obtain ⟨z65_0, z65_1, z65_2, y65_0, y65_1, y65_2⟩ := bc3_ BK889.out) | ((with_reducible refine gate_callee (f := 78) rfl ?_); refine gl_ (some 24) Try.func78 #[.agg #[.int .i64 a0_0, .int .i64 a0_1, .slice A0_2 l0_2.length c0_2], .int .i64 t898] ?_; (with_reducible refine (impl_chainOf.calls k a0_0 a0_1 _ _ l0_2 t898 t899 _ ?side1 ?side2 A5.out).mono ?_); (case side1 => exact cp_ ((Kd.C_below HR0_2.out HB.out))); (case side2 => exact HC0_2.out); rintro e w66 ⟨rfl, hb⟩; refine ⟨_, rfl, ?_⟩; replace HO896 := Aside0.mk (Kd.S_below (sp_ HO896.out) hb); replace BK889 := bk2_ BK889 hb; replace BK890 := bk2_ BK890 hb; replace BK891 := bk2_ BK891 hb; replace BK897 := bk2_ BK897 hb; replace HB := st_ HB hb; (try clear hb); (try clear hk)))
 go_loopg [11] k (fun kq v11 w' => ∃ (x11_1 : Int), v11 = .int .i64 x11_1 ∧ Aside0 (impl_PutIn.l0 kq t898 x11_1 l1_0 a1_1 a1_2 a1_3 t892 (wrap64 (t893 + 1)) t894 = some (r1, r2, r3, r4)) ∧ Aside0 (kq ≤ k) ∧ Aside0 (Kd.S k100 100 w' w.heap.size (fun k_ => k_ ≠ gb890 ∧ gbz895 ≤ k_ ∧ k_ < gb897) (.slice Ao61 t894.length co61) t894) ∧ Aside0 (w'.heap[gb889]? = some (.cells #[.int .i64 a0_0, .int .i64 a0_1, (.slice A0_2 l0_2.length c0_2)] 57 (0, 0))) ∧ Aside0 (w'.heap[gb890]? = some (.cells #[(.slice A1_0 l1_0.length c1_0), .int .i64 a1_1, .int .i64 a1_2, .string a1_3] 43 (0, 0))) ∧ Aside0 (w'.heap[gb891]? = some (.cells #[.int .i64 0, .int .i64 0, (.slice none 0 0)] 57 (0, 0))) ∧ Aside0 (w'.heap[gb897]? = some (.cells #[.int .i64 t892, .int .i64 (wrap64 (t893 + 1)), (.slice Ao61 t894.length co61)] 57 (0, 0))) ∧ Aside0 (Below w.heap.size w w'))
 case atStart => exact ⟨(0), (by first | rfl | (simp; done) | (simp [*]; done)), H', ⟨Nat.le_refl _⟩, ⟨by (with_reducible repeat (first | apply Kd.S_alloc | apply Kd.S_drewN | apply Kd.S_drew)); exact Kd.S_mono HO896.out (fun _ hk => ⟨hk.1.2, ⟨hk.1.1.2, hk.2⟩⟩)⟩, ⟨bq_ BK889.out⟩, ⟨bq_ BK890.out⟩, ⟨bq_ BK891.out⟩, ⟨bq_ BK897.out⟩, ⟨by exact hs_ HB.out⟩⟩
 case round =>
  clear H'
  try clear c1
  try clear p1
  try clear q1
  try clear hx1
  try clear c2
  try clear p2
  try clear c3
  try clear c4
  try clear hx4
  try clear hf4
  try clear c5
  try clear c6
  try clear c6b0
  try clear p6
  try clear c7
  try clear c7b0
  try clear c8
  try clear c8b0
  try clear c9
  try clear p9
  try clear q9
  try clear hx9
  try clear c10
  try clear c10b0
  try clear c11
  try clear p11
  try clear q11
  try clear hx11
  try clear hf11
  try clear c15
  try clear c16
  try clear c20
  try clear c21
  try clear c22
  try clear c25
  try clear c38
  try clear c40
  try clear c41
  try clear c42
  try clear c44
  try clear hx44
  try clear hf44
  try clear c45
  try clear c52
  try clear c53
  try clear c57
  try clear c58
  try clear c59
  try clear c60
  try clear c62
  try clear p64
  try clear z54_0 z54_1 z54_2
  try clear z60_0 z60_1 z60_2
  try clear z63_0 z63_1 z63_2 z63_3
  try clear z65_0 z65_1 z65_2
  try clear y54_0 y54_1 y54_2
  try clear y60_0 y60_1 y60_2
  try clear y63_0 y63_1 y63_2 y63_3
  try clear y65_0 y65_1 y65_2
  try clear hx11_0
  try clear hx11_1
  try clear hx44_0
  try clear hx44_1
  try clear hx900_0
  try clear hx900_1
  try clear p11
  try clear p900
  try clear q11
  try clear q900
  obtain ⟨x11_1, rfl, HA, HK1, HO_898002, BK889, BK890, BK891, BK897, HB⟩ := hrel
  cases gk with
  | zero => exact absurd HA.out (by simp [impl_PutIn.l0])
  | succ k1 =>
   have H := HA.out
   clear HA
   simp only [impl_PutIn.l0] at H
   have HC67 := Aside0.mk H
   clear H
   go_upto_region 10 with (fail)
   go_cut [58] (fun v58 wc => ∃ (kq : Nat) (x58_66 : Bool), v58 = .bool x58_66 ∧ Aside0 (impl_PutIn.j1 kq t898 x11_1 x58_66 l1_0 a1_1 a1_2 a1_3 t892 (wrap64 (t893 + 1)) t894 = some (r1, r2, r3, r4)) ∧ Aside0 (kq ≤ k1) ∧ Aside0 (Kd.S k100 100 wc w.heap.size (fun k_ => k_ ≠ gb890 ∧ gbz895 ≤ k_ ∧ k_ < gb897) (.slice Ao61 t894.length co61) t894) ∧ Aside0 (wc.heap[gb889]? = some (.cells #[.int .i64 a0_0, .int .i64 a0_1, (.slice A0_2 l0_2.length c0_2)] 57 (0, 0))) ∧ Aside0 (wc.heap[gb890]? = some (.cells #[(.slice A1_0 l1_0.length c1_0), .int .i64 a1_1, .int .i64 a1_2, .string a1_3] 43 (0, 0))) ∧ Aside0 (wc.heap[gb891]? = some (.cells #[.int .i64 0, .int .i64 0, (.slice none 0 0)] 57 (0, 0))) ∧ Aside0 (wc.heap[gb897]? = some (.cells #[.int .i64 t892, .int .i64 (wrap64 (t893 + 1)), (.slice Ao61 t894.length co61)] 57 (0, 0))) ∧ Aside0 (Below w.heap.size w wc))
   case first =>
    have H := HC67.out
    clear HC67
    by_cases c68 : x11_1 < (t894.length : Int)
    ·
     rw [if_pos c68] at H
     have c68b0 := decide_eq_true c68
     clear c68
     (first | rw [c68b0] | (simp only [i64_w, i32_w]; rw [c68b0]) | skip)
     by_cases c69 : 0 ≤ x11_1
     ·
      rw [if_pos c69] at H
      have c69b0 := decide_eq_true c69
      clear c69
      have H' := Aside0.mk H
      clear H
      have hnb70 := NB897_889.out
      have hnc70 := NB889_897.out
      have hnb71 := NB897_890.out
      have hnc71 := NB890_897.out
      have hnb72 := NB897_891.out
      have hnc72 := NB891_897.out
      obtain ⟨z73_0, z73_1, z73_2, y73_0, y73_1, y73_2⟩ := bc3_ BK897.out
      have p908 : 0 ≤ (x11_1 : Int) := of_decide_eq_true (by with_reducible assumption)
      have q908 : x11_1 < (t894.length : Int) := of_decide_eq_true (by with_reducible assumption)
      obtain ⟨ad908, A908_1, c908_1, e908, hx908_0, hx908_1, hl908_1, hi908_1⟩ := at_T100 (Kd.S_reads' HO_898002.out).2.2 x11_1 p908 q908
      cases e908
      obtain ⟨ce908, hce908, hMe908, hcc908⟩ := Kd.S_get HO_898002.out z100 x11_1 p908 (by first | exact q908 | exact of_decide_eq_true (by with_reducible assumption) | (have e_ := (Kd.S_reads' HO_898002.out).1; omega))
      obtain ⟨ve908_1, rfl, ge908_1⟩ := k100_openM hMe908
      have hv908_1 := hcc908 1 _ rfl
      rw [add_field _ _ 1 (by omega)] at hv908_1
      replace hv908_1 := Option.some.inj (hv908_1.symm.trans hx908_1)
      rw [hv908_1] at ge908_1
      have HL908_1 := Aside0.mk (show Kd.S k43 43 _ _ _ _ ((rd_T100 t894 x11_1).f1) from ge908_1)
      clear hv908_1 ge908_1 hcc908 hce908
      have HR908_1 := Aside0.mk hi908_1
      have HC908_1 := Aside0.mk hl908_1
      clear hi908_1 hl908_1
      replace p908 := eq_true p908
      replace q908 := eq_true q908
      go_wp2
      go_meet
      case rel => exact ⟨_, (decide (((rd_T100 t894 x11_1).f0) ≤ t898)), (by first | rfl | (simp; done) | (simp [*]; done)), H', ⟨by have := HK1.out; first | omega | exact Nat.le_refl _⟩, ⟨by (with_reducible repeat (first | apply Kd.S_alloc | apply Kd.S_drewN | apply Kd.S_drew)); exact HO_898002.out⟩, ⟨bq_ BK889.out⟩, ⟨bq_ BK890.out⟩, ⟨bq_ BK891.out⟩, ⟨bq_ BK897.out⟩, ⟨by exact hs_ HB.out⟩⟩
     rw [if_neg c69] at H
     exact absurd H (by simp)
    rw [if_neg c68] at H
    have c68b0 : decide (x11_1 < (t894.length : Int)) = false := decide_eq_false c68
    clear c68
    (first | rw [c68b0] | (simp only [i64_w, i32_w]; rw [c68b0]) | skip)
    have H' := Aside0.mk H
    clear H
    have hnb74 := NB897_889.out
    have hnc74 := NB889_897.out
    have hnb75 := NB897_890.out
    have hnc75 := NB890_897.out
    have hnb76 := NB897_891.out
    have hnc76 := NB891_897.out
    obtain ⟨z77_0, z77_1, z77_2, y77_0, y77_1, y77_2⟩ := bc3_ BK897.out
    go_wp2
    go_meet
    case rel => exact ⟨_, (false), (by first | rfl | (simp; done) | (simp [*]; done)), H', ⟨by have := HK1.out; first | omega | exact Nat.le_refl _⟩, ⟨by (with_reducible repeat (first | apply Kd.S_alloc | apply Kd.S_drewN | apply Kd.S_drew)); exact HO_898002.out⟩, ⟨bq_ BK889.out⟩, ⟨bq_ BK890.out⟩, ⟨bq_ BK891.out⟩, ⟨bq_ BK897.out⟩, ⟨by exact hs_ HB.out⟩⟩
   case rest =>
    clear HC67
    try clear c1
    try clear p1
    try clear q1
    try clear hx1
    try clear c2
    try clear p2
    try clear c3
    try clear c4
    try clear hx4
    try clear hf4
    try clear c5
    try clear c6
    try clear c6b0
    try clear p6
    try clear c7
    try clear c7b0
    try clear c8
    try clear c8b0
    try clear c9
    try clear p9
    try clear q9
    try clear hx9
    try clear c10
    try clear c10b0
    try clear c11
    try clear p11
    try clear q11
    try clear hx11
    try clear hf11
    try clear c15
    try clear c16
    try clear c20
    try clear c21
    try clear c22
    try clear c25
    try clear c38
    try clear c40
    try clear c41
    try clear c42
    try clear c44
    try clear hx44
    try clear hf44
    try clear c45
    try clear c52
    try clear c53
    try clear c57
    try clear c58
    try clear c59
    try clear c60
    try clear c62
    try clear p64
    try clear c68
    try clear c68b0
    try clear c69
    try clear c69b0
    try clear c70
    try clear c71
    try clear c72
    try clear c74
    try clear c75
    try clear c76
    try clear hx11_0
    try clear hx11_1
    try clear hx44_0
    try clear hx44_1
    try clear hx900_0
    try clear hx900_1
    try clear hx908_0
    try clear hx908_1
    try clear p1
    try clear p11
    try clear p2
    try clear p6
    try clear p64
    try clear p9
    try clear p900
    try clear p908
    try clear q1
    try clear q11
    try clear q9
    try clear q900
    try clear q908
    obtain ⟨kq, x58_66, rfl, HA, HJ66, HO_898002, BK889, BK890, BK891, BK897, HB⟩ := hcut
    cases kq with
    | zero => exact absurd HA.out (by simp [impl_PutIn.j1])
    | succ kj66 =>
     have H := HA.out
     clear HA
     simp only [impl_PutIn.j1] at H
     by_cases c78 : x58_66 = true
     ·
      subst c78
      rw [if_pos rfl] at H
      have H' := Aside0.mk H
      clear H
      go_wp2
      go_roundg kj66
      case measure => have := HK1.out; have := HJ66.out; omega
      case rel => exact ⟨(wrap64 (x11_1 + 1)), (by first | rfl | (simp; done) | (simp [*]; done)), H', ⟨by have := HK1.out; have := HJ66.out; omega⟩, ⟨by (with_reducible repeat (first | apply Kd.S_alloc | apply Kd.S_drewN | apply Kd.S_drew)); exact HO_898002.out⟩, ⟨bq_ BK889.out⟩, ⟨bq_ BK890.out⟩, ⟨bq_ BK891.out⟩, ⟨bq_ BK897.out⟩, ⟨by exact hs_ HB.out⟩⟩
     replace c78 := Bool.eq_false_iff.mpr c78
     subst c78
     rw [if_neg (show ¬ (false = true) by decide)] at H
     replace H := Option.bind_eq_some_iff.mp H
     obtain ⟨⟨t909, t912, t913, t914⟩, A790, H⟩ := H
     have A79 := Aside0.mk A790
     clear A790
     obtain ⟨y915, hy915⟩ : ∃ y_ : List (S43), y_ = (([(⟨t909, t912, t913, t914⟩ : S43)] : List (S43))) := ⟨_, rfl⟩
     replace H : (if 0 ≤ x11_1 then (if x11_1 ≤ (t894.length : Int) then ((some (t894.drop (x11_1 : Int).toNat : List (S100))).bind fun y922 => ((some (t894.take (x11_1 : Int).toNat : List (S100))).bind fun y919 => (if ([] : List (S100)).length + y919.length < 4398046511104 then ((some (([] : List (S100)) ++ y919 : List (S100))).bind fun y926 => (if y926.length < 4398046511104 then ((some (y926 ++ [(⟨t898, y915⟩ : S100)] : List (S100))).bind fun y930 => (if y930.length + y922.length < 4398046511104 then (some (t892, (wrap64 (t893 + 1)), (y930 ++ y922), true)) else (none))) else (none))) else (none)))) else (none)) else (none)) = some (r1, r2, r3, r4) := by first | (rw [hy915]; with_reducible exact H) | (have H2_ := (Option.bind_some _ _).symm.trans H; rw [hy915]; with_reducible exact H2_) | (have H2_ := (Option.bind_some _ _).symm.trans H; with_reducible exact H2_) | with_reducible exact H | (rw [hy915]; exact H) | exact H
     have Ny915 := Aside0.mk hy915
     clear hy915
     by_cases c80 : 0 ≤ x11_1
     ·
      rw [if_pos c80] at H
      have c80b0 := eq_true c80
      have c80b1 := decide_eq_true c80
      clear c80
      by_cases c81 : x11_1 ≤ (t894.length : Int)
      ·
       rw [if_pos c81] at H
       have c81b0 := eq_true c81
       have c81b1 := decide_eq_true c81
       clear c81
       obtain ⟨y922, hy922⟩ : ∃ y_ : List (S100), y_ = (t894.drop (x11_1 : Int).toNat) := ⟨_, rfl⟩
       replace H : ((some (t894.take (x11_1 : Int).toNat : List (S100))).bind fun y919 => (if ([] : List (S100)).length + y919.length < 4398046511104 then ((some (([] : List (S100)) ++ y919 : List (S100))).bind fun y926 => (if y926.length < 4398046511104 then ((some (y926 ++ [(⟨t898, y915⟩ : S100)] : List (S100))).bind fun y930 => (if y930.length + y922.length < 4398046511104 then (some (t892, (wrap64 (t893 + 1)), (y930 ++ y922), true)) else (none))) else (none))) else (none))) = some (r1, r2, r3, r4) := by first | (rw [hy922]; with_reducible exact H) | (have H2_ := (Option.bind_some _ _).symm.trans H; rw [hy922]; with_reducible exact H2_) | (have H2_ := (Option.bind_some _ _).symm.trans H; with_reducible exact H2_) | with_reducible exact H | (rw [hy922]; exact H) | exact H
       have Ny922 := Aside0.mk hy922
       clear hy922
       obtain ⟨y919, hy919⟩ : ∃ y_ : List (S100), y_ = (t894.take (x11_1 : Int).toNat) := ⟨_, rfl⟩
       replace H : (if ([] : List (S100)).length + y919.length < 4398046511104 then ((some (([] : List (S100)) ++ y919 : List (S100))).bind fun y926 => (if y926.length < 4398046511104 then ((some (y926 ++ [(⟨t898, y915⟩ : S100)] : List (S100))).bind fun y930 => (if y930.length + y922.length < 4398046511104 then (some (t892, (wrap64 (t893 + 1)), (y930 ++ y922), true)) else (none))) else (none))) else (none)) = some (r1, r2, r3, r4) := by first | (rw [hy919]; with_reducible exact H) | (have H2_ := (Option.bind_some _ _).symm.trans H; rw [hy919]; with_reducible exact H2_) | (have H2_ := (Option.bind_some _ _).symm.trans H; with_reducible exact H2_) | with_reducible exact H | (rw [hy919]; exact H) | exact H
       have Ny919 := Aside0.mk hy919
       clear hy919
       by_cases c82 : ([] : List (S100)).length + y919.length < 4398046511104
       ·
        rw [if_pos c82] at H
        have LMc82 := Aside0.mk c82
        clear c82
        obtain ⟨y926, hy926⟩ : ∃ y_ : List (S100), y_ = (([] : List (S100)) ++ y919) := ⟨_, rfl⟩
        replace H : (if y926.length < 4398046511104 then ((some (y926 ++ [(⟨t898, y915⟩ : S100)] : List (S100))).bind fun y930 => (if y930.length + y922.length < 4398046511104 then (some (t892, (wrap64 (t893 + 1)), (y930 ++ y922), true)) else (none))) else (none)) = some (r1, r2, r3, r4) := by first | (rw [hy926]; with_reducible exact H) | (have H2_ := (Option.bind_some _ _).symm.trans H; rw [hy926]; with_reducible exact H2_) | (have H2_ := (Option.bind_some _ _).symm.trans H; with_reducible exact H2_) | with_reducible exact H | (rw [hy926]; exact H) | exact H
        have Ny926 := Aside0.mk hy926
        clear hy926
        by_cases c83 : y926.length < 4398046511104
        ·
         rw [if_pos c83] at H
         have LMc83 := Aside0.mk c83
         clear c83
         obtain ⟨y930, hy930⟩ : ∃ y_ : List (S100), y_ = (y926 ++ [(⟨t898, y915⟩ : S100)]) := ⟨_, rfl⟩
         replace H : (if y930.length + y922.length < 4398046511104 then (some (t892, (wrap64 (t893 + 1)), (y930 ++ y922), true)) else (none)) = some (r1, r2, r3, r4) := by first | (rw [hy930]; with_reducible exact H) | (have H2_ := (Option.bind_some _ _).symm.trans H; rw [hy930]; with_reducible exact H2_) | (have H2_ := (Option.bind_some _ _).symm.trans H; with_reducible exact H2_) | with_reducible exact H | (rw [hy930]; exact H) | exact H
         have Ny930 := Aside0.mk hy930
         clear hy930
         by_cases c84 : y930.length + y922.length < 4398046511104
         ·
          rw [if_pos c84] at H
          have LMc84 := Aside0.mk c84
          clear c84
          obtain ⟨y933, hy933⟩ : ∃ y_ : List (S100), y_ = (y930 ++ y922) := ⟨_, rfl⟩
          replace H : (some (t892, (wrap64 (t893 + 1)), y933, true)) = some (r1, r2, r3, r4) := by first | (rw [hy933]; with_reducible exact H) | (have H2_ := (Option.bind_some _ _).symm.trans H; rw [hy933]; with_reducible exact H2_) | (have H2_ := (Option.bind_some _ _).symm.trans H; with_reducible exact H2_) | with_reducible exact H | (rw [hy933]; exact H) | exact H
          have Ny933 := Aside0.mk hy933
          clear hy933
          simp only [Option.some.injEq, Prod.mk.injEq] at H
          obtain ⟨rfl, rfl, rfl, rfl⟩ := H
          have hnb85 := NB890_889.out
          have hnc85 := NB889_890.out
          have hnb86 := NB890_891.out
          have hnc86 := NB891_890.out
          have hnb87 := NB890_897.out
          have hnc87 := NB897_890.out
          obtain ⟨z88_0, z88_1, z88_2, z88_3, y88_0, y88_1, y88_2, y88_3⟩ := bc4_ BK890.out
          try go_wp2_with (first | ((with_reducible refine gate_callee (f := 80) rfl ?_); refine gl_ (some 63) Try.func80 #[.agg #[.slice A1_0 l1_0.length c1_0, .int .i64 a1_1, .int .i64 a1_2, .string a1_3]] ?_; (with_reducible refine (impl_copyAlarm.calls _ _ l1_0 a1_1 a1_2 a1_3 t909 t912 t913 t914 _ ?side1 ?side2 A79.out).mono ?_); (case side1 => exact cp_ ((Kd.C_below HR1_0.out HB.out))); (case side2 => exact HC1_0.out); rintro e w89 ⟨v910, rfl, ho0, hb⟩; refine ⟨_, rfl, ?_⟩; obtain ⟨gbz910, hz910⟩ := Kd.R_name ho0; replace HO_898002 := Aside0.mk (Kd.S_below (Kd.S_ltz hz910 (sp_ HO_898002.out)) hb); have HO911 := Aside0.mk (Kd.R_lower (Kd.R_gez hz910 ho0) (below_size (hs_ HB.out))); replace BK889 := bk2_ BK889 hb; replace BK890 := bk2_ BK890 hb; replace BK891 := bk2_ BK891 hb; replace BK897 := bk2_ BK897 hb; replace HB := st_ HB hb; (try clear hb); (try clear hk); (try clear ho0); obtain ⟨Ao90, co90, eo90⟩ := Kd.R_slice HO911.out; subst eo90) | ((with_reducible refine gd_ 64 rfl ?_); refine Kd.S_lit2 k43 w.heap.size 43 ?hg (N := 64) ?hd (x := (⟨t909, t912, t913, t914⟩ : S43)) (cs := [.slice Ao90 t909.length co90, .int .i64 t912, .int .i64 t913, .string t914]) (ok := (fun k_ => k_ ≠ gb890)) (okp := (fun k_ => some k_ = (.slice Ao90 t909.length co90 : Value).ownBlock)) (fun k_ => gbz910 ≤ k_) ?hr ?hp (fun k_ hk_ => (fun e_ => e_.1.2) ((Kd.R_types (HO911.out) BK890.out (by decide)).1 k_ hk_.symm)) (fun k_ hk_ => ((Kd.R_mono (ok' := (fun k_ => k_ ≠ gb890)) (Kd.R_types (HO911.out) BK890.out (by decide)) (fun k_ hk => hk.2))).1 k_ hk_.symm) ?hf ?aS ?_; (case hd => rfl); (case hg => rfl); (case hr => first | (go_simp; done) | (go_simp; rfl)); (case hp => exact (k43_mkM _ _ _ (⟨t909, t912, t913, t914⟩ : S43) (Kd.R_mono (Kd.R_tight rfl (Kd.R_mono (ok' := (fun k_ => k_ ≠ gb890)) (Kd.R_types (HO911.out) BK890.out (by decide)) (fun k_ hk => hk.2))) (fun _ h_ => h_)))); (case hf => exact (show ∀ k_, w89.heap.size ≤ k_ → ((fun k_ => k_ ≠ gb890)) k_ from fun k_ hk => Kd.freshB (g := gb890) (o := .cells #[.slice A1_0 l1_0.length c1_0, .int .i64 a1_1, .int .i64 a1_2, .string a1_3] 43 (0, 0)) (pb_ BK890.out) k_ hk) _ (Nat.le_refl _)); (case aS => exact (below_size (hs_ HB.out))); intro v916 w91 ho92 hb hnew_; rw [← Ny915.out] at ho92; replace HO_898002 := Aside0.mk (Kd.S_elder' (sp_ HO_898002.out) hnew_ hb); have HO917 := Aside0.mk (ho92); replace BK889 := bk2_ BK889 hb; replace BK890 := bk2_ BK890 hb; replace BK891 := bk2_ BK891 hb; replace BK897 := bk2_ BK897 hb; replace HB := st_ HB hb; clear HO911; clear hb hnew_ ho92; obtain ⟨Ao93, co93, eo93⟩ := Kd.S_slice HO917.out; subst eo93) | ((with_reducible refine gd_ 12 rfl ?_); refine bv_ 12 #[.int .i64 0, .slice none 0 0] 100 ?_; intro gb918 hg w94 hbox hb; replace HO_898002 := Aside0.mk (Kd.S_below (Kd.S_ltz hg (Kd.S_elderB (sp_ HO_898002.out) gb918 (Nat.le_of_eq hg.symm))) hb); replace HO917 := Aside0.mk (Kd.S_below (Kd.S_ltz hg (sp_ HO917.out)) hb); have BK918 := Aside0.mk (hbox); have GW918 := Aside0.mk ((gw_ hg (hs_ HB.out))); replace HB := st_ HB hb; have GE918 := Ge_.mk GW918.out; have NB889_918 := Ne_.mk (nl_ BK889.out hg); replace BK889 := bk2_ BK889 hb; have NB918_889 := Ne_.mk (NB889_918.out.symm); have NB890_918 := Ne_.mk (nl_ BK890.out hg); replace BK890 := bk2_ BK890 hb; have NB918_890 := Ne_.mk (NB890_918.out.symm); have NB891_918 := Ne_.mk (nl_ BK891.out hg); replace BK891 := bk2_ BK891 hb; have NB918_891 := Ne_.mk (NB891_918.out.symm); have NB897_918 := Ne_.mk (nl_ BK897.out hg); replace BK897 := bk2_ BK897 hb; have NB918_897 := Ne_.mk (NB897_918.out.symm); clear hb hbox hg; have hnb95 := NB918_889.out; have hnc95 := NB889_918.out; have hnb96 := NB918_890.out; have hnc96 := NB890_918.out; have hnb97 := NB918_891.out; have hnc97 := NB891_918.out; have hnb98 := NB918_897.out; have hnc98 := NB897_918.out; obtain ⟨z99_0, z99_1, y99_0, y99_1⟩ := bc2_ BK918.out))
          generalize hw_ : ((w94.setCell ⟨gb918, 0, none⟩ (.int .i64 t898)).setCell ⟨gb918, 1, none⟩ (.slice Ao93 y915.length co93)) = w100
          have n0_ : Aside0 (Kd.S k100 100 w100 w.heap.size (fun k_ => some k_ ≠ (.slice Ao93 y915.length co93 : Value).ownBlock ∧ k_ ≠ gb890 ∧ gbz895 ≤ k_ ∧ k_ < gb897 ∧ k_ < gbz910 ∧ k_ ≠ gb918 ∧ k_ < gb918) (.slice Ao61 t894.length co61) t894) := ⟨by rw [← hw_]; exact (Kd.S_mono (sf_ gb918 (Kd.S_mono HO_898002.out (fun k_ hk => (⟨hk, hk.1.2⟩ : _ ∧ k_ ≠ gb918))) (fun _ hk => hk.2)) (fun _ hk => ⟨hk.1.1.1.2, ⟨hk.1.1.1.1.1.1, ⟨hk.1.1.1.1.1.2.1, ⟨hk.1.1.1.1.1.2.2, ⟨hk.1.1.1.1.2, ⟨hk.1.1.2, hk.1.2⟩⟩⟩⟩⟩⟩))⟩
          have n1_ : Aside0 (Kd.S k43 43 w100 w.heap.size (fun k_ => k_ ≠ gb890 ∧ (some k_ = (.slice Ao93 y915.length co93 : Value).ownBlock ∨ gbz910 ≤ k_) ∧ k_ < gb918) (.slice Ao93 y915.length co93) y915) := ⟨by rw [← hw_]; exact (Kd.S_mono (sf_ gb918 (Kd.S_types HO917.out BK918.out (by decide)) (fun _ hk => hk.2)) (fun _ hk => ⟨hk.1.1.1, ⟨hk.1.1.2, hk.1.2⟩⟩))⟩
          have n2_ : Aside0 (w100.heap[gb889]? = some (.cells #[.int .i64 a0_0, .int .i64 a0_1, .slice A0_2 l0_2.length c0_2] 57 (0, 0))) := ⟨by rw [← hw_]; exact (bq_ BK889.out)⟩
          have n3_ : Aside0 (w100.heap[gb890]? = some (.cells #[.slice A1_0 l1_0.length c1_0, .int .i64 a1_1, .int .i64 a1_2, .string a1_3] 43 (0, 0))) := ⟨by rw [← hw_]; exact (bq_ BK890.out)⟩
          have n4_ : Aside0 (w100.heap[gb891]? = some (.cells #[.int .i64 0, .int .i64 0, .slice none 0 0] 57 (0, 0))) := ⟨by rw [← hw_]; exact (bq_ BK891.out)⟩
          have n5_ : Aside0 (w100.heap[gb897]? = some (.cells #[.int .i64 t892, .int .i64 (wrap64 (t893 + 1)), .slice Ao61 t894.length co61] 57 (0, 0))) := ⟨by rw [← hw_]; exact (bq_ BK897.out)⟩
          have n6_ : Aside0 (w100.heap[gb918]? = some (.cells #[.int .i64 t898, .slice Ao93 y915.length co93] 100 (0, 0))) := ⟨by rw [← hw_]; exact (bp_ BK918.out)⟩
          have n7_ : Aside0 (Below w.heap.size w w100) := ⟨by rw [← hw_]; exact (hs_ HB.out)⟩
          clear hw_
          (try clear HO_898002)
          (try clear HO917)
          (try clear BK889)
          (try clear BK890)
          (try clear BK891)
          (try clear BK897)
          (try clear BK918)
          (try clear HB)
          have HO_898002 := n0_
          have HO917 := n1_
          have BK889 := n2_
          have BK890 := n3_
          have BK891 := n4_
          have BK897 := n5_
          have BK918 := n6_
          have HB := n7_
          clear n0_ n1_ n2_ n3_ n4_ n5_ n6_ n7_
          have qp101 : (x11_1 : Int) ≤ ((t894.length : Int) : Int) := of_decide_eq_true (by with_reducible assumption)
          have q0p101 : (0 : Int) ≤ (x11_1 : Int) := of_decide_eq_true (by with_reducible assumption)
          have hlxp101 := (Kd.S_reads' HO_898002.out).1
          obtain ⟨i0p101, hi0p101, _, hszp101, _⟩ := info_parts info100
          have hcutp101 := cut_to (P := Try.prog) 55 100 .i64 Try.underlying55 hi0p101 Ao61 t894.length co61 x11_1 (of_decide_eq_true (by with_reducible assumption)) qp101 (Kd.S_reads' HO_898002.out).2.1
          have hcutbp101 := cut_from (P := Try.prog) 55 100 .i64 Try.underlying55 hi0p101 2 hszp101 Ao61 t894.length co61 x11_1 q0p101 qp101
          have KLp101 := Aside0.mk (show (x11_1 : Int).toNat ≤ t894.length from by omega)
          obtain ⟨GXp101, hsrp101, hspp101, hglp101⟩ := Kd.S_split HO_898002.out ((x11_1 : Int).toNat) KLp101.out
          have HGp101 := Aside0.mk (show ∀ k_, GXp101 k_ → k_ < gb918 from fun k_ hk => (hglp101 k_ hk).2.2.2.2.2.2)
          have hyp101 : y919.length = (x11_1 : Int).toNat := (by rw [Ny919.out, List.length_take]; omega)
          rw [← Ny919.out] at hspp101
          rw [← hyp101] at hspp101 hcutp101
          obtain ⟨Ap101b, hAbp101⟩ : ∃ A1, A1 = (if co61 = (x11_1 : Int).toNat then Ao61 else (Ao61 : Option Addr).map (·.add ((x11_1 : Int).toNat * 2))) := ⟨_, rfl⟩
          obtain ⟨cp101b, hcbp101⟩ : ∃ c1, c1 = co61 - (x11_1 : Int).toNat := ⟨_, rfl⟩
          have hybp101 : y922.length = t894.length - (x11_1 : Int).toNat := (by rw [Ny922.out, List.length_drop])
          rw [← hybp101, ← hAbp101, ← hcbp101] at hcutbp101
          have KAp101 := Aside0.mk hAbp101
          clear hcbp101 hAbp101 hybp101 hlxp101
          obtain ⟨GXp101P, hPPp101, hlPp101⟩ := Kd.S_fp hspp101
          have HGp101P := Aside0.mk (show ∀ k_, GXp101P k_ → k_ < gb918 from fun k_ hk => (hlPp101 k_ hk).1.1.2.2.2.2.2.2)
          obtain ⟨GXp101u0, hPXp101u0, hPlp101u0⟩ := Kd.S_fp (HO917.out)
          have HGp101u0 := Aside0.mk (show ∀ k_, GXp101u0 k_ → k_ < gb918 from fun k_ hk_ => (hPlp101u0 k_ hk_).1.2.2)
          have nup101u0 := Aside0.mk (Kd.S_mono hPXp101u0 (fun k_ hk_ => (⟨⟨(hPlp101u0 k_ hk_).1, hk_⟩, fun g_ => Or.elim (hPlp101u0 k_ hk_).1.2.1 (fun e3_ => (hglp101 k_ g_).1 e3_) (fun e3_ => Nat.lt_irrefl _ (Nat.lt_of_lt_of_le (hglp101 k_ g_).2.2.2.2.1 e3_))⟩ : (_ ∧ GXp101u0 k_) ∧ ¬ GXp101 k_)))
          have HO921 := Aside0.mk (Kd.S_mono (Kd.S_mono hPPp101 (fun k_ hk_ => (⟨(hlPp101 k_ hk_).1, hk_⟩ : _ ∧ GXp101P k_))) (fun k_ hk => (⟨hk, fun g_ => Or.elim (hPlp101u0 k_ g_).1.2.1 (fun e3_ => hk.1.1.1 e3_) (fun e3_ => Nat.lt_irrefl _ (Nat.lt_of_lt_of_le hk.1.1.2.2.2.2.1 e3_))⟩ : _ ∧ ¬ GXp101u0 k_)))
          clear HO_898002
          have HO_898002 := Aside0.mk hsrp101
          clear HO917
          have HO917 := nup101u0
          clear nup101u0 hPXp101u0 hPlp101u0 hsrp101 hspp101 hglp101 hPPp101 hlPp101 hyp101 hi0p101 hszp101
          replace qp101 := eq_true qp101
          replace HO_898002 := Aside0.mk (Kd.S_drew HO_898002.out)
          replace HO917 := Aside0.mk (Kd.S_drew HO917.out)
          replace HO921 := Aside0.mk (Kd.S_drew HO921.out)
          replace BK889 := Aside0.mk (blk_drew BK889.out)
          replace BK890 := Aside0.mk (blk_drew BK890.out)
          replace BK891 := Aside0.mk (blk_drew BK891.out)
          replace BK897 := Aside0.mk (blk_drew BK897.out)
          replace BK918 := Aside0.mk (blk_drew BK918.out)
          replace HB := Aside0.mk (bd_ HB.out)
          refine start_ (n := 15) (S := fun w' => w'.cell? ⟨gb897, 0, none⟩ = some (.int .i64 t892) ∧ w'.cell? ⟨gb897, 1, none⟩ = some (.int .i64 (wrap64 (t893 + 1))) ∧ w'.cell? ⟨gb897, 2, none⟩ = some (.slice Ao61 t894.length co61) ∧ w'.cell? ⟨gb918, 0, none⟩ = some (.int .i64 t898) ∧ w'.cell? ⟨gb918, 1, none⟩ = some (.slice Ao93 y915.length co93)) (ds := [14]) #[f_,f_,f_,f_,f_,f_,f_,f_,f_,f_,f_,f_,f_,f_,f_] (by kernel_rfl) rfl rfl ⟨bx_ BK897.out 0, bx_ BK897.out 1, bx_ BK897.out 2, bx_ BK918.out 0, bx_ BK918.out 1⟩ (fun hHeld => ?_); refine with_tabW impl_PutIn.tab13 impl_PutIn.bits13 (fun HT_ HW_ => ?_)
          generalize w100.drew = w102 at HO_898002 HO917 HO921 BK889 BK890 BK891 BK897 BK918 HB hHeld ⊢
          refine pw_ 0 66 (b_ 1 14) rfl rfl HT_.out ?_
          refine pw_ 2 68 #[t_,f_,t_,f_,f_,f_,f_,f_,f_,f_,f_,f_,f_,f_,f_] rfl rfl HT_.out ?_
          refine pw_ 8 74 #[t_,f_,t_,f_,f_,f_,f_,f_,t_,f_,f_,f_,f_,f_,f_] rfl rfl HT_.out ?_
          refine pw_ 10 76 #[t_,f_,t_,f_,f_,f_,f_,f_,t_,f_,t_,f_,f_,f_,f_] rfl rfl HT_.out ?_
          refine take_ (i := 1) (N := some 67) (v := ?_) (a' := ?_) #[t_,t_,t_,f_,f_,f_,f_,f_,t_,f_,t_,f_,f_,f_,f_] rfl rfl (take_ofW HT_.out HW_.out (by kernel_rfl)) (fun _ _ _ h => h) (Or.inl ⟨by rfl, ?_⟩) hHeld ?_ ?_
          rotate_left
          ·
           rintro w' ⟨s0, s1, s2, s3, s4⟩
           go_simp
           with_reducible rfl
          rotate_left
          ·
           simp only [fr_]
           rfl
          refine pw_ 3 69 #[t_,t_,t_,t_,f_,f_,f_,f_,t_,f_,t_,f_,f_,f_,f_] rfl rfl HT_.out ?_
          refine take_ (i := 5) (N := some 71) (v := ?_) (a' := ?_) #[t_,t_,t_,t_,f_,t_,f_,f_,t_,f_,t_,f_,f_,f_,f_] rfl rfl (take_ofW HT_.out HW_.out (by kernel_rfl)) (fun _ _ _ h => h) (Or.inl ⟨by rfl, ?_⟩) hHeld ?_ ?_
          rotate_left
          ·
           rintro w' ⟨s0, s1, s2, s3, s4⟩
           go_simp
           with_reducible rfl
          rotate_left
          ·
           simp only [fr_]
           rfl
          refine take_ (i := 9) (N := some 75) (v := ?_) (a' := ?_) #[t_,t_,t_,t_,f_,t_,f_,f_,t_,t_,t_,f_,f_,f_,f_] rfl rfl (take_ofW HT_.out HW_.out (by kernel_rfl)) (fun _ _ _ h => h) (Or.inl ⟨by rfl, ?_⟩) hHeld ?_ ?_
          rotate_left
          ·
           rintro w' ⟨s0, s1, s2, s3, s4⟩
           go_simp
           with_reducible rfl
          rotate_left
          ·
           simp only [fr_]
           rfl
          refine pw_ 11 77 #[t_,t_,t_,t_,f_,t_,f_,f_,t_,t_,t_,t_,f_,f_,f_] rfl rfl HT_.out ?_
          refine join_ (σ := Value × Nat) 4 #[t_,t_,t_,t_,t_,t_,t_,f_,t_,t_,t_,t_,f_,f_,f_] (fun s_ => [(70, s_.1), (72, .slice (some ⟨s_.2, 0, none⟩) 1 1)]) (fun s_ w' => (w'.cell? ⟨gb897, 0, none⟩ = some (.int .i64 t892) ∧ w'.cell? ⟨gb897, 1, none⟩ = some (.int .i64 (wrap64 (t893 + 1))) ∧ w'.cell? ⟨gb897, 2, none⟩ = some (.slice Ao61 t894.length co61) ∧ w'.cell? ⟨gb918, 0, none⟩ = some (.int .i64 t898) ∧ w'.cell? ⟨gb918, 1, none⟩ = some (.slice Ao93 y915.length co93)) ∧ (Kd.S k43 43 w' w.heap.size (fun k_ => k_ ≠ gb890 ∧ GXp101u0 k_ ∧ k_ < gb918 ∧ ¬ GXp101 k_ ∧ (some k_ = (.slice Ao93 y915.length co93 : Value).ownBlock ∨ gbz910 ≤ k_)) (.slice Ao93 y915.length co93) y915) ∧ (Kd.S k100 100 w' w.heap.size (fun k_ => some k_ ≠ (.slice Ao93 y915.length co93 : Value).ownBlock ∧ some k_ ≠ (.slice Ao61 t894.length co61 : Value).ownBlock ∧ k_ ≠ gb890 ∧ k_ ≠ gb918 ∧ k_ ≠ s_.2 ∧ ¬ GXp101 k_ ∧ ¬ GXp101u0 k_) s_.1 y926) ∧ (Kd.S (Kd.opt k100) 100 w' w.heap.size (fun k_ => some k_ ≠ (.slice Ao93 y915.length co93 : Value).ownBlock ∧ some k_ ≠ (s_.1 : Value).ownBlock ∧ k_ ≠ gb890 ∧ k_ ≠ gb918 ∧ k_ ≠ s_.2 ∧ gbz895 ≤ k_ ∧ GXp101 k_ ∧ k_ < gb897 ∧ k_ < gb918 ∧ k_ < gbz910) (.slice Ao61 t894.length co61) (Kd.gap ((x11_1 : Int).toNat) t894)) ∧ (w'.heap[gb889]? = some (.cells #[.int .i64 a0_0, .int .i64 a0_1, .slice A0_2 l0_2.length c0_2] 57 (0, 0))) ∧ (w'.heap[gb890]? = some (.cells #[.slice A1_0 l1_0.length c1_0, .int .i64 a1_1, .int .i64 a1_2, .string a1_3] 43 (0, 0))) ∧ (w'.heap[gb891]? = some (.cells #[.int .i64 0, .int .i64 0, .slice none 0 0] 57 (0, 0))) ∧ (w'.heap[gb897]? = some (.cells #[.int .i64 t892, .int .i64 (wrap64 (t893 + 1)), .slice Ao61 t894.length co61] 57 (0, 0))) ∧ (w'.heap[gb918]? = some (.cells #[.int .i64 t898, .slice Ao93 y915.length co93] 100 (0, 0))) ∧ (w'.heap[s_.2]? = some (.cells #[.int .i64 t898, .slice Ao93 y915.length co93] 100 (0, 0))) ∧ (w.heap.size ≤ s_.2) ∧ (w.heap.size ≤ s_.2) ∧ (gb889 ≠ s_.2) ∧ (s_.2 ≠ gb889) ∧ (gb890 ≠ s_.2) ∧ (s_.2 ≠ gb890) ∧ (gb891 ≠ s_.2) ∧ (s_.2 ≠ gb891) ∧ (gb897 ≠ s_.2) ∧ (s_.2 ≠ gb897) ∧ (gb918 ≠ s_.2) ∧ (s_.2 ≠ gb918) ∧ (Below w.heap.size w w')) ?_ ?_
          rotate_left
          ·
           intro hCont
           refine two_ (i := 4) (j := 6) (Ni := some 70) (Nj := some 72) #[t_,t_,t_,t_,t_,t_,f_,f_,t_,t_,t_,t_,f_,f_,f_] #[t_,t_,t_,t_,f_,t_,t_,f_,t_,t_,t_,t_,f_,f_,f_] rfl rfl rfl rfl (two_of HT_.out (by kernel_rfl)) (by decide) (by decide) (fun K hK => ?_) (fun K hK => ?_)
           ·
            skip
            refine Kd.S_append_part_step k100 (w0 := w) w.heap.size (by rfl) (.const (.slice none 0 0)) (.tmp 69) 55 100 (.agg #[(.int .i64 0), (.slice none 0 0)]) 32 rfl Try.underlying55 info100 rfl (by decide) (by omega) (.slice none 0 0) ([] : List (S100)) y919 _ _ _ (fun k_ => some k_ ≠ (.slice Ao61 t894.length co61 : Value).ownBlock ∧ some k_ ≠ (.slice Ao93 y915.length co93 : Value).ownBlock ∧ k_ ≠ gb890 ∧ k_ ≠ gb918 ∧ ¬ GXp101 k_ ∧ ¬ GXp101u0 k_) (fun k_ => some k_ ≠ (.slice Ao93 y915.length co93 : Value).ownBlock ∧ k_ ≠ gb890 ∧ gbz895 ≤ k_ ∧ k_ < gb897 ∧ k_ < gbz910 ∧ k_ ≠ gb918 ∧ k_ < gb918 ∧ (¬ GXp101 k_ ∨ some k_ = (.slice Ao61 y919.length co61 : Value).ownBlock) ∧ GXp101P k_ ∧ ¬ GXp101u0 k_) rfl rfl ?aR (fun k_ hx_ ho_ => by have hz_ : ((((fun k_ => some k_ ≠ (.slice Ao93 y915.length co93 : Value).ownBlock ∧ k_ ≠ gb890 ∧ gbz895 ≤ k_ ∧ k_ < gb897 ∧ k_ < gbz910 ∧ k_ ≠ gb918 ∧ k_ < gb918 ∧ (¬ GXp101 k_ ∨ some k_ = (.slice Ao61 y919.length co61 : Value).ownBlock) ∧ GXp101P k_ ∧ ¬ GXp101u0 k_)) k_ ∧ ¬ GXp101 k_) ∧ some k_ ≠ (.slice Ao61 t894.length co61 : Value).ownBlock) := ⟨⟨hx_, fun g_ => (hx_.2.2.2.2.2.2.2.1).elim (fun h_ => h_ g_) (fun h_ => ho_ h_)⟩, fun e_ => ho_ (e_.trans Kd.own_len)⟩; exact ⟨⟨hz_.2, ⟨hz_.1.1.1, ⟨hz_.1.1.2.1, ⟨hz_.1.1.2.2.2.2.2.1, ⟨hz_.1.2, hz_.1.1.2.2.2.2.2.2.2.2.2⟩⟩⟩⟩⟩, (by simp [Value.ownBlock])⟩) ?aF ?aO ?aB ?aS ?aL ?_
            (case aR => exact (Kd.S_mono (HO921.out) (fun k_ hk => ⟨hk.1.1.1.1, ⟨hk.1.1.1.2.1, ⟨hk.1.1.1.2.2.1, ⟨hk.1.1.1.2.2.2.1, ⟨hk.1.1.1.2.2.2.2.1, ⟨hk.1.1.1.2.2.2.2.2.1, ⟨hk.1.1.1.2.2.2.2.2.2, ⟨hk.1.1.2, ⟨hk.1.2, hk.2⟩⟩⟩⟩⟩⟩⟩⟩⟩)))
            (case aB => exact (hs_ HB.out))
            (case aF => exact (fun k_ hk => ⟨Kd.fresh' (Kd.S_lt (sp_ HO_898002.out)) k_ hk, Kd.fresh' (Kd.S_lt (sp_ HO917.out)) k_ hk, Kd.freshB (g := gb890) (o := .cells #[.slice A1_0 l1_0.length c1_0, .int .i64 a1_1, .int .i64 a1_2, .string a1_3] 43 (0, 0)) (pb_ BK890.out) k_ hk, Kd.freshB (g := gb918) (o := .cells #[.int .i64 t898, .slice Ao93 y915.length co93] 100 (0, 0)) (pb_ BK918.out) k_ hk, (fun g_ => Nat.lt_irrefl _ (Nat.lt_of_lt_of_le (Nat.lt_trans (HGp101.out k_ g_) (blk_lt (pb_ BK918.out))) hk)), (fun g_ => Nat.lt_irrefl _ (Nat.lt_of_lt_of_le (Nat.lt_trans (HGp101u0.out k_ g_) (blk_lt (pb_ BK918.out))) hk))⟩))
            (case aO => exact ((Kd.S_nil _ _ _ _ _)))
            (case aS => exact (below_size (hs_ HB.out)))
            (case aL => have := LMc82.out; omega)
            intro v927 w103 ho hb hg hat
            rw [← Ny926.out] at ho
            replace HO_898002 := Aside0.mk (Kd.S_after (Kd.S_apart_nil (sp_ HO_898002.out)) hg hat)
            replace BK889 := Aside0.mk (blk_grown (bq_ BK889.out) hg (by simp [Value.ownBlock]))
            replace BK890 := Aside0.mk (blk_grown (bq_ BK890.out) hg (by simp [Value.ownBlock]))
            replace BK891 := Aside0.mk (blk_grown (bq_ BK891.out) hg (by simp [Value.ownBlock]))
            replace BK897 := Aside0.mk (blk_grown (bq_ BK897.out) hg (by simp [Value.ownBlock]))
            replace HO917 := Aside0.mk (Kd.S_grown (sp_ HO917.out) hg (fun _ _ => by simp [Value.ownBlock]))
            replace BK918 := Aside0.mk (blk_grown (bq_ BK918.out) hg (by simp [Value.ownBlock]))
            replace HB := Aside0.mk (hb)
            have HO928 := Aside0.mk (ho)
            clear HO921
            clear ho hb hg hat
            refine hK.out _ _ ⟨bx_ BK897.out 0, bx_ BK897.out 1, bx_ BK897.out 2, bx_ BK918.out 0, bx_ BK918.out 1⟩ (fun hHeld => ?_)
            clear hK K
            refine norm_ (a' := ?_) ?_ ?_
            rotate_left
            ·
             show Act.put _ (some 70) _ = _
             simp only [fr_]
             rfl
            refine one_ (i := 6) (N := some 72) #[t_,t_,t_,t_,t_,t_,t_,f_,t_,t_,t_,t_,f_,f_,f_] rfl rfl (one_of HT_.out (by kernel_rfl)) (by decide) (fun K hK => ?_)
            refine box_stepL ?hg (N := 72) ?hd (cs := #[.int .i64 t898, .slice Ao93 y915.length co93]) (t := 100) ?hr ?_; (case hd => rfl); (case hg => rfl); (case hr => first | (go_simp; done) | (go_simp; rfl))
            intro gb929 hg w104 hbox hb
            replace HO_898002 := Aside0.mk (Kd.S_below (Kd.S_elderB (sp_ HO_898002.out) gb929 (Nat.le_of_eq hg.symm)) hb)
            replace HO917 := Aside0.mk (Kd.S_below (sp_ HO917.out) hb)
            replace HO928 := Aside0.mk (Kd.S_below (Kd.S_elderB (sp_ HO928.out) gb929 (Nat.le_of_eq hg.symm)) hb)
            have BK929 := Aside0.mk (hbox)
            have GW929 := Aside0.mk ((gw_ hg (hs_ HB.out)))
            have GE929 := Ge_.mk ((gw_ hg (hs_ HB.out)))
            replace HB := st_ HB hb
            have NB889_929 := Ne_.mk (nl_ BK889.out hg)
            have NB929_889 := Ne_.mk (ng_ BK889.out hg)
            replace BK889 := bk2_ BK889 hb
            have NB890_929 := Ne_.mk (nl_ BK890.out hg)
            have NB929_890 := Ne_.mk (ng_ BK890.out hg)
            replace BK890 := bk2_ BK890 hb
            have NB891_929 := Ne_.mk (nl_ BK891.out hg)
            have NB929_891 := Ne_.mk (ng_ BK891.out hg)
            replace BK891 := bk2_ BK891 hb
            have NB897_929 := Ne_.mk (nl_ BK897.out hg)
            have NB929_897 := Ne_.mk (ng_ BK897.out hg)
            replace BK897 := bk2_ BK897 hb
            have NB918_929 := Ne_.mk (nl_ BK918.out hg)
            have NB929_918 := Ne_.mk (ng_ BK918.out hg)
            replace BK918 := bk2_ BK918 hb
            clear hb hbox hg
            refine hK.out _ _ ⟨bx_ BK897.out 0, bx_ BK897.out 1, bx_ BK897.out 2, bx_ BK918.out 0, bx_ BK918.out 1⟩ (fun hHeld => ?_)
            clear hK K
            refine norm_ (a' := ?_) ?_ ?_
            rotate_left
            ·
             show Act.put _ (some 72) _ = _
             simp only [fr_]
             rfl
            exact norm_ (by simp only [putAll, fr_]) (hCont (v927, gb929) _ ⟨hHeld, (Kd.S_mono (sp_ HO917.out) (fun _ hk => ⟨hk.1.1.1, ⟨hk.1.2, ⟨hk.1.1.2.2, ⟨hk.2, hk.1.1.2.1⟩⟩⟩⟩)), (Kd.S_mono (sp_ HO928.out) (fun _ hk => ⟨hk.1.2.1, ⟨hk.1.1, ⟨hk.1.2.2.1, ⟨hk.1.2.2.2.1, ⟨hk.2, ⟨hk.1.2.2.2.2.1, hk.1.2.2.2.2.2⟩⟩⟩⟩⟩⟩)), (Kd.S_mono (sp_ HO_898002.out) (fun _ hk => ⟨hk.1.1.1.1, ⟨hk.1.2, ⟨hk.1.1.1.2.1, ⟨hk.1.1.1.2.2.2.2.2.1, ⟨hk.2, ⟨hk.1.1.1.2.2.1, ⟨hk.1.1.2, ⟨hk.1.1.1.2.2.2.1, ⟨hk.1.1.1.2.2.2.2.2.2, hk.1.1.1.2.2.2.2.1⟩⟩⟩⟩⟩⟩⟩⟩⟩)), (pb_ BK889.out), (pb_ BK890.out), (pb_ BK891.out), (pb_ BK897.out), (pb_ BK918.out), (pb_ BK929.out), GW929.out, GE929.out, NB889_929.out, NB929_889.out, NB890_929.out, NB929_890.out, NB891_929.out, NB929_891.out, NB897_929.out, NB929_897.out, NB918_929.out, NB929_918.out, (hs_ HB.out)⟩)
           skip
           refine box_stepL ?hg (N := 72) ?hd (cs := #[.int .i64 t898, .slice Ao93 y915.length co93]) (t := 100) ?hr ?_; (case hd => rfl); (case hg => rfl); (case hr => first | (go_simp; done) | (go_simp; rfl))
           intro gb929 hg w103 hbox hb
           replace HO_898002 := Aside0.mk (Kd.S_below (Kd.S_elderB (sp_ HO_898002.out) gb929 (Nat.le_of_eq hg.symm)) hb)
           replace HO917 := Aside0.mk (Kd.S_below (sp_ HO917.out) hb)
           replace HO921 := Aside0.mk (Kd.S_below (Kd.S_elderB (sp_ HO921.out) gb929 (Nat.le_of_eq hg.symm)) hb)
           have BK929 := Aside0.mk (hbox)
           have GW929 := Aside0.mk ((gw_ hg (hs_ HB.out)))
           have GE929 := Ge_.mk ((gw_ hg (hs_ HB.out)))
           replace HB := st_ HB hb
           have NB889_929 := Ne_.mk (nl_ BK889.out hg)
           have NB929_889 := Ne_.mk (ng_ BK889.out hg)
           replace BK889 := bk2_ BK889 hb
           have NB890_929 := Ne_.mk (nl_ BK890.out hg)
           have NB929_890 := Ne_.mk (ng_ BK890.out hg)
           replace BK890 := bk2_ BK890 hb
           have NB891_929 := Ne_.mk (nl_ BK891.out hg)
           have NB929_891 := Ne_.mk (ng_ BK891.out hg)
           replace BK891 := bk2_ BK891 hb
           have NB897_929 := Ne_.mk (nl_ BK897.out hg)
           have NB929_897 := Ne_.mk (ng_ BK897.out hg)
           replace BK897 := bk2_ BK897 hb
           have NB918_929 := Ne_.mk (nl_ BK918.out hg)
           have NB929_918 := Ne_.mk (ng_ BK918.out hg)
           replace BK918 := bk2_ BK918 hb
           clear hb hbox hg
           refine hK.out _ _ ⟨bx_ BK897.out 0, bx_ BK897.out 1, bx_ BK897.out 2, bx_ BK918.out 0, bx_ BK918.out 1⟩ (fun hHeld => ?_)
           clear hK K
           refine norm_ (a' := ?_) ?_ ?_
           rotate_left
           ·
            show Act.put _ (some 72) _ = _
            simp only [fr_]
            rfl
           refine one_ (i := 4) (N := some 70) #[t_,t_,t_,t_,t_,t_,t_,f_,t_,t_,t_,t_,f_,f_,f_] rfl rfl (one_of HT_.out (by kernel_rfl)) (by decide) (fun K hK => ?_)
           refine Kd.S_append_part_step k100 (w0 := w) w.heap.size (by rfl) (.const (.slice none 0 0)) (.tmp 69) 55 100 (.agg #[(.int .i64 0), (.slice none 0 0)]) 32 rfl Try.underlying55 info100 rfl (by decide) (by omega) (.slice none 0 0) ([] : List (S100)) y919 _ _ _ (fun k_ => some k_ ≠ (.slice Ao61 t894.length co61 : Value).ownBlock ∧ some k_ ≠ (.slice Ao93 y915.length co93 : Value).ownBlock ∧ k_ ≠ gb890 ∧ k_ ≠ gb918 ∧ k_ ≠ gb929 ∧ ¬ GXp101 k_ ∧ ¬ GXp101u0 k_) (fun k_ => some k_ ≠ (.slice Ao93 y915.length co93 : Value).ownBlock ∧ k_ ≠ gb890 ∧ gbz895 ≤ k_ ∧ k_ < gb897 ∧ k_ < gbz910 ∧ k_ ≠ gb918 ∧ k_ < gb918 ∧ (¬ GXp101 k_ ∨ some k_ = (.slice Ao61 y919.length co61 : Value).ownBlock) ∧ GXp101P k_ ∧ ¬ GXp101u0 k_ ∧ k_ ≠ gb929) rfl rfl ?aR (fun k_ hx_ ho_ => by have hz_ : ((((fun k_ => some k_ ≠ (.slice Ao93 y915.length co93 : Value).ownBlock ∧ k_ ≠ gb890 ∧ gbz895 ≤ k_ ∧ k_ < gb897 ∧ k_ < gbz910 ∧ k_ ≠ gb918 ∧ k_ < gb918 ∧ (¬ GXp101 k_ ∨ some k_ = (.slice Ao61 y919.length co61 : Value).ownBlock) ∧ GXp101P k_ ∧ ¬ GXp101u0 k_ ∧ k_ ≠ gb929)) k_ ∧ ¬ GXp101 k_) ∧ some k_ ≠ (.slice Ao61 t894.length co61 : Value).ownBlock) := ⟨⟨hx_, fun g_ => (hx_.2.2.2.2.2.2.2.1).elim (fun h_ => h_ g_) (fun h_ => ho_ h_)⟩, fun e_ => ho_ (e_.trans Kd.own_len)⟩; exact ⟨⟨hz_.2, ⟨hz_.1.1.1, ⟨hz_.1.1.2.1, ⟨hz_.1.1.2.2.2.2.2.1, ⟨hz_.1.1.2.2.2.2.2.2.2.2.2.2, ⟨hz_.1.2, hz_.1.1.2.2.2.2.2.2.2.2.2.1⟩⟩⟩⟩⟩⟩, (by simp [Value.ownBlock])⟩) ?aF ?aO ?aB ?aS ?aL ?_
           (case aR => exact (Kd.S_mono (HO921.out) (fun k_ hk => ⟨hk.1.1.1.1.1, ⟨hk.1.1.1.1.2.1, ⟨hk.1.1.1.1.2.2.1, ⟨hk.1.1.1.1.2.2.2.1, ⟨hk.1.1.1.1.2.2.2.2.1, ⟨hk.1.1.1.1.2.2.2.2.2.1, ⟨hk.1.1.1.1.2.2.2.2.2.2, ⟨hk.1.1.1.2, ⟨hk.1.1.2, ⟨hk.1.2, hk.2⟩⟩⟩⟩⟩⟩⟩⟩⟩⟩)))
           (case aB => exact (hs_ HB.out))
           (case aF => exact (fun k_ hk => ⟨Kd.fresh' (Kd.S_lt (sp_ HO_898002.out)) k_ hk, Kd.fresh' (Kd.S_lt (sp_ HO917.out)) k_ hk, Kd.freshB (g := gb890) (o := .cells #[.slice A1_0 l1_0.length c1_0, .int .i64 a1_1, .int .i64 a1_2, .string a1_3] 43 (0, 0)) (pb_ BK890.out) k_ hk, Kd.freshB (g := gb918) (o := .cells #[.int .i64 t898, .slice Ao93 y915.length co93] 100 (0, 0)) (pb_ BK918.out) k_ hk, Kd.freshB (g := gb929) (o := .cells #[.int .i64 t898, .slice Ao93 y915.length co93] 100 (0, 0)) (pb_ BK929.out) k_ hk, (fun g_ => Nat.lt_irrefl _ (Nat.lt_of_lt_of_le (Nat.lt_trans (HGp101.out k_ g_) (blk_lt (pb_ BK918.out))) hk)), (fun g_ => Nat.lt_irrefl _ (Nat.lt_of_lt_of_le (Nat.lt_trans (HGp101u0.out k_ g_) (blk_lt (pb_ BK918.out))) hk))⟩))
           (case aO => exact ((Kd.S_nil _ _ _ _ _)))
           (case aS => exact (below_size (hs_ HB.out)))
           (case aL => have := LMc82.out; omega)
           intro v927 w104 ho hb hg hat
           rw [← Ny926.out] at ho
           replace HO_898002 := Aside0.mk (Kd.S_after (Kd.S_apart_nil (sp_ HO_898002.out)) hg hat)
           replace BK889 := Aside0.mk (blk_grown (bq_ BK889.out) hg (by simp [Value.ownBlock]))
           replace BK890 := Aside0.mk (blk_grown (bq_ BK890.out) hg (by simp [Value.ownBlock]))
           replace BK891 := Aside0.mk (blk_grown (bq_ BK891.out) hg (by simp [Value.ownBlock]))
           replace BK897 := Aside0.mk (blk_grown (bq_ BK897.out) hg (by simp [Value.ownBlock]))
           replace HO917 := Aside0.mk (Kd.S_grown (sp_ HO917.out) hg (fun _ _ => by simp [Value.ownBlock]))
           replace BK918 := Aside0.mk (blk_grown (bq_ BK918.out) hg (by simp [Value.ownBlock]))
           replace BK929 := Aside0.mk (blk_grown (bq_ BK929.out) hg (by simp [Value.ownBlock]))
           replace HB := Aside0.mk (hb)
           have HO928 := Aside0.mk (ho)
           clear HO921
           clear ho hb hg hat
           refine hK.out _ _ ⟨bx_ BK897.out 0, bx_ BK897.out 1, bx_ BK897.out 2, bx_ BK918.out 0, bx_ BK918.out 1⟩ (fun hHeld => ?_)
           clear hK K
           refine norm_ (a' := ?_) ?_ ?_
           rotate_left
           ·
            show Act.put _ (some 70) _ = _
            simp only [fr_]
            rfl
           exact norm_ (by simp only [putAll, fr_]) (hCont (v927, gb929) _ ⟨hHeld, (Kd.S_mono (sp_ HO917.out) (fun _ hk => ⟨hk.1.1.1, ⟨hk.1.2, ⟨hk.1.1.2.2, ⟨hk.2, hk.1.1.2.1⟩⟩⟩⟩)), (Kd.S_mono (sp_ HO928.out) (fun _ hk => ⟨hk.2.1, ⟨hk.1, ⟨hk.2.2.1, ⟨hk.2.2.2.1, ⟨hk.2.2.2.2.1, ⟨hk.2.2.2.2.2.1, hk.2.2.2.2.2.2⟩⟩⟩⟩⟩⟩)), (Kd.S_mono (sp_ HO_898002.out) (fun _ hk => ⟨hk.1.1.1.1, ⟨hk.2, ⟨hk.1.1.1.2.1, ⟨hk.1.1.1.2.2.2.2.2.1, ⟨hk.1.2, ⟨hk.1.1.1.2.2.1, ⟨hk.1.1.2, ⟨hk.1.1.1.2.2.2.1, ⟨hk.1.1.1.2.2.2.2.2.2, hk.1.1.1.2.2.2.2.1⟩⟩⟩⟩⟩⟩⟩⟩⟩)), (pb_ BK889.out), (pb_ BK890.out), (pb_ BK891.out), (pb_ BK897.out), (pb_ BK918.out), (pb_ BK929.out), GW929.out, GE929.out, NB889_929.out, NB929_889.out, NB890_929.out, NB929_890.out, NB891_929.out, NB929_891.out, NB897_929.out, NB929_897.out, NB918_929.out, NB929_918.out, (hs_ HB.out)⟩)
          rintro ⟨v927, gb929⟩ w105 ⟨hS_, h0_, h1_, h2_, h3_, h4_, h5_, h6_, h7_, h8_, h9_, h10_, h11_, h12_, h13_, h14_, h15_, h16_, h17_, h18_, h19_, h20_, h21_⟩
          replace HO917 : Aside0 (Kd.S k43 43 w105 w.heap.size (fun k_ => k_ ≠ gb890 ∧ GXp101u0 k_ ∧ k_ < gb918 ∧ ¬ GXp101 k_ ∧ (some k_ = (.slice Ao93 y915.length co93 : Value).ownBlock ∨ gbz910 ≤ k_)) (.slice Ao93 y915.length co93) y915) := ⟨h0_⟩
          have HO928 : Aside0 (Kd.S k100 100 w105 w.heap.size (fun k_ => some k_ ≠ (.slice Ao93 y915.length co93 : Value).ownBlock ∧ some k_ ≠ (.slice Ao61 t894.length co61 : Value).ownBlock ∧ k_ ≠ gb890 ∧ k_ ≠ gb918 ∧ k_ ≠ gb929 ∧ ¬ GXp101 k_ ∧ ¬ GXp101u0 k_) v927 y926) := ⟨h1_⟩
          replace HO_898002 : Aside0 (Kd.S (Kd.opt k100) 100 w105 w.heap.size (fun k_ => some k_ ≠ (.slice Ao93 y915.length co93 : Value).ownBlock ∧ some k_ ≠ (v927 : Value).ownBlock ∧ k_ ≠ gb890 ∧ k_ ≠ gb918 ∧ k_ ≠ gb929 ∧ gbz895 ≤ k_ ∧ GXp101 k_ ∧ k_ < gb897 ∧ k_ < gb918 ∧ k_ < gbz910) (.slice Ao61 t894.length co61) (Kd.gap ((x11_1 : Int).toNat) t894)) := ⟨h2_⟩
          replace BK889 : Aside0 (w105.heap[gb889]? = some (.cells #[.int .i64 a0_0, .int .i64 a0_1, .slice A0_2 l0_2.length c0_2] 57 (0, 0))) := ⟨h3_⟩
          replace BK890 : Aside0 (w105.heap[gb890]? = some (.cells #[.slice A1_0 l1_0.length c1_0, .int .i64 a1_1, .int .i64 a1_2, .string a1_3] 43 (0, 0))) := ⟨h4_⟩
          replace BK891 : Aside0 (w105.heap[gb891]? = some (.cells #[.int .i64 0, .int .i64 0, .slice none 0 0] 57 (0, 0))) := ⟨h5_⟩
          replace BK897 : Aside0 (w105.heap[gb897]? = some (.cells #[.int .i64 t892, .int .i64 (wrap64 (t893 + 1)), .slice Ao61 t894.length co61] 57 (0, 0))) := ⟨h6_⟩
          replace BK918 : Aside0 (w105.heap[gb918]? = some (.cells #[.int .i64 t898, .slice Ao93 y915.length co93] 100 (0, 0))) := ⟨h7_⟩
          have BK929 : Aside0 (w105.heap[gb929]? = some (.cells #[.int .i64 t898, .slice Ao93 y915.length co93] 100 (0, 0))) := ⟨h8_⟩
          have GW929 : Aside0 (w.heap.size ≤ gb929) := ⟨h9_⟩
          have GE929 := Ge_.mk h10_
          have NB889_929 := Ne_.mk h11_
          have NB929_889 := Ne_.mk h12_
          have NB890_929 := Ne_.mk h13_
          have NB929_890 := Ne_.mk h14_
          have NB891_929 := Ne_.mk h15_
          have NB929_891 := Ne_.mk h16_
          have NB897_929 := Ne_.mk h17_
          have NB929_897 := Ne_.mk h18_
          have NB918_929 := Ne_.mk h19_
          have NB929_918 := Ne_.mk h20_
          replace HB : Aside0 (Below w.heap.size w w105) := ⟨h21_⟩
          clear HO921 h0_ h1_ h2_ h3_ h4_ h5_ h6_ h7_ h8_ h9_ h10_ h11_ h12_ h13_ h14_ h15_ h16_ h17_ h18_ h19_ h20_ h21_
          have hHeld : w105.cell? ⟨gb897, 0, none⟩ = some (.int .i64 t892) ∧ w105.cell? ⟨gb897, 1, none⟩ = some (.int .i64 (wrap64 (t893 + 1))) ∧ w105.cell? ⟨gb897, 2, none⟩ = some (.slice Ao61 t894.length co61) ∧ w105.cell? ⟨gb918, 0, none⟩ = some (.int .i64 t898) ∧ w105.cell? ⟨gb918, 1, none⟩ = some (.slice Ao93 y915.length co93) := hS_
          obtain ⟨PXP107, hPXP107, hPlP107⟩ := Kd.S_fp (Kd.S_types (Kd.S_types (Kd.S_apart' (Kd.S_apart' (HO917.out) (Kd.S_typed HO_898002.out) (by decide)) (Kd.S_typed HO928.out) (by decide)) BK918.out (by decide)) BK929.out (by decide))
          refine norm_ (a' := ?_) ?_ ?_
          rotate_left
          ·
           simp only [putAll, fr_]
           rfl
          refine one_ (i := 7) (N := some 73) #[t_,t_,t_,t_,t_,t_,t_,t_,t_,t_,t_,t_,f_,f_,f_] rfl rfl (one_of HT_.out (by kernel_rfl)) (by decide) (fun K hK => ?_)
          refine Kd.S_append_box_step k100 (w0 := w) w.heap.size (by rfl) (.tmp 70) (.tmp 72) 55 100 (.agg #[(.int .i64 0), (.slice none 0 0)]) 32 rfl Try.underlying55 info100 rfl (by decide) (by omega) v927 y926 (⟨t898, y915⟩ : S100) [.int .i64 t898, .slice Ao93 y915.length co93] (fun k_ => some k_ ≠ (.slice Ao61 t894.length co61 : Value).ownBlock ∧ k_ ≠ gb890 ∧ k_ ≠ gb918 ∧ k_ ≠ gb929 ∧ ¬ GXp101 k_) (fun k_ => PXP107 k_) gb929 (pb_ BK929.out) rfl rfl ?aP (fun k_ hk_ => ⟨⟨(hPlP107 k_ hk_).1.1.1.1.2, ⟨(hPlP107 k_ hk_).1.1.1.1.1.1, ⟨(hPlP107 k_ hk_).1.1.2, ⟨(hPlP107 k_ hk_).1.2, (hPlP107 k_ hk_).1.1.1.1.1.2.2.2.1⟩⟩⟩⟩, (hPlP107 k_ hk_).1.1.1.2⟩) ?aF ?aO ?aB ?aS ?aL ?_
          (case aP => exact k100_mkM _ _ _ (⟨t898, y915⟩ : S100) (Kd.S_mono hPXP107 (fun _ h_ => h_)))
          (case aB => exact (hs_ HB.out))
          (case aF => exact (fun k_ hk => ⟨Kd.fresh' (Kd.S_lt (sp_ HO_898002.out)) k_ hk, Kd.freshB (g := gb890) (o := .cells #[.slice A1_0 l1_0.length c1_0, .int .i64 a1_1, .int .i64 a1_2, .string a1_3] 43 (0, 0)) (pb_ BK890.out) k_ hk, Kd.freshB (g := gb918) (o := .cells #[.int .i64 t898, .slice Ao93 y915.length co93] 100 (0, 0)) (pb_ BK918.out) k_ hk, Kd.freshB (g := gb929) (o := .cells #[.int .i64 t898, .slice Ao93 y915.length co93] 100 (0, 0)) (pb_ BK929.out) k_ hk, (fun g_ => Nat.lt_irrefl _ (Nat.lt_of_lt_of_le (Nat.lt_trans (HGp101.out k_ g_) (blk_lt (pb_ BK918.out))) hk))⟩))
          (case aO => exact (Kd.S_mono (sp_ HO928.out) (fun k_ hk => ⟨⟨hk.2.1, ⟨hk.2.2.1, ⟨hk.2.2.2.1, ⟨hk.2.2.2.2.1, hk.2.2.2.2.2.1⟩⟩⟩⟩, fun e_ => (fun ez_ => hk.2.2.2.2.2.2 (hPlP107 _ ez_).1.1.1.1.1.2.1) e_⟩)))
          (case aS => exact (below_size (hs_ HB.out)))
          (case aL => have := LMc83.out; omega)
          intro v931 w106 ho hb hg hat
          rw [← Ny930.out] at ho
          replace HO_898002 := Aside0.mk (Kd.S_after (ok := (fun k_ => some k_ ≠ (.slice Ao93 y915.length co93 : Value).ownBlock ∧ k_ ≠ gb890 ∧ k_ ≠ gb918 ∧ k_ ≠ gb929 ∧ gbz895 ≤ k_ ∧ GXp101 k_ ∧ k_ < gb897 ∧ k_ < gb918 ∧ k_ < gbz910)) (Kd.S_mono (sp_ HO_898002.out) (fun _ hk => ⟨⟨hk.1, ⟨hk.2.2.1, ⟨hk.2.2.2.1, ⟨hk.2.2.2.2.1, ⟨hk.2.2.2.2.2.1, ⟨hk.2.2.2.2.2.2.1, ⟨hk.2.2.2.2.2.2.2.1, ⟨hk.2.2.2.2.2.2.2.2.1, hk.2.2.2.2.2.2.2.2.2⟩⟩⟩⟩⟩⟩⟩⟩, hk.2.1⟩)) hg hat)
          replace BK889 := Aside0.mk (blk_grown (bq_ BK889.out) hg (Kd.S_ne HO928.out BK889.out (by decide)))
          replace BK890 := Aside0.mk (blk_grown (bq_ BK890.out) hg (Kd.S_ne HO928.out BK890.out (by decide)))
          replace BK891 := Aside0.mk (blk_grown (bq_ BK891.out) hg (Kd.S_ne HO928.out BK891.out (by decide)))
          replace BK897 := Aside0.mk (blk_grown (bq_ BK897.out) hg (Kd.S_ne HO928.out BK897.out (by decide)))
          replace BK918 := Aside0.mk (blk_grown (bq_ BK918.out) hg (Kd.S_away HO928.out (fun _ hk => hk.2.2.2.1)))
          replace BK929 := Aside0.mk (blk_grown (bq_ BK929.out) hg (Kd.S_away HO928.out (fun _ hk => hk.2.2.2.2.1)))
          replace HB := Aside0.mk (hb)
          have HO932 := Aside0.mk (ho)
          clear HO928 HO917
          clear ho hb hg hat
          refine hK.out _ _ ⟨bx_ BK897.out 0, bx_ BK897.out 1, bx_ BK897.out 2, bx_ BK918.out 0, bx_ BK918.out 1⟩ (fun hHeld => ?_)
          clear hK K
          refine norm_ (a' := ?_) ?_ ?_
          rotate_left
          ·
           show Act.put _ (some 73) _ = _
           simp only [fr_]
           rfl
          refine one_ (i := 12) (N := some 78) #[t_,t_,t_,t_,t_,t_,t_,t_,t_,t_,t_,t_,t_,f_,f_] rfl rfl (one_of HT_.out (by kernel_rfl)) (by decide) (fun K hK => ?_)
          refine Kd.S_append_rest_step k100 (w0 := w) w.heap.size (by rfl) (.tmp 73) (.tmp 77) 55 100 (.agg #[(.int .i64 0), (.slice none 0 0)]) 32 rfl Try.underlying55 info100 rfl (by decide) (by omega) v931 y930 t894 Ao61 t894.length co61 ((x11_1 : Int).toNat) cp101b (fun k_ => k_ ≠ gb890 ∧ k_ ≠ gb918 ∧ k_ ≠ gb929) (fun k_ => some k_ ≠ (v931 : Value).ownBlock ∧ k_ ≠ gb890 ∧ k_ ≠ gb918 ∧ k_ ≠ gb929 ∧ gbz895 ≤ k_ ∧ GXp101 k_ ∧ k_ < gb897 ∧ k_ < gb918 ∧ k_ < gbz910) rfl KLp101.out (by rw [show (if co61 = (x11_1 : Int).toNat then Ao61 else (Ao61 : Option Addr).map (·.add ((x11_1 : Int).toNat * (k100).sz))) = Ap101b from KAp101.out.symm, ← Ny922.out]; rfl) ?aR (fun k_ hk ho_ => ⟨⟨hk.2.1, ⟨hk.2.2.1, hk.2.2.2.1⟩⟩, hk.1⟩) ?aF ?aO ?aB ?aS ?aL ?_
          (case aR => exact (Kd.S_mono (HO_898002.out) (fun k_ hk => ⟨hk.2, ⟨hk.1.2.1, ⟨hk.1.2.2.1, ⟨hk.1.2.2.2.1, ⟨hk.1.2.2.2.2.1, ⟨hk.1.2.2.2.2.2.1, ⟨hk.1.2.2.2.2.2.2.1, ⟨hk.1.2.2.2.2.2.2.2.1, hk.1.2.2.2.2.2.2.2.2⟩⟩⟩⟩⟩⟩⟩⟩)))
          (case aB => exact (hs_ HB.out))
          (case aF => exact (fun k_ hk => ⟨Kd.freshB (g := gb890) (o := .cells #[.slice A1_0 l1_0.length c1_0, .int .i64 a1_1, .int .i64 a1_2, .string a1_3] 43 (0, 0)) (pb_ BK890.out) k_ hk, Kd.freshB (g := gb918) (o := .cells #[.int .i64 t898, .slice Ao93 y915.length co93] 100 (0, 0)) (pb_ BK918.out) k_ hk, Kd.freshB (g := gb929) (o := .cells #[.int .i64 t898, .slice Ao93 y915.length co93] 100 (0, 0)) (pb_ BK929.out) k_ hk⟩))
          (case aO => exact (Kd.S_mono (sp_ HO932.out) (fun k_ hk => ⟨⟨hk.2.1, ⟨hk.2.2.1, hk.2.2.2.1⟩⟩, fun e_ => hk.2.2.2.2 e_.1.2.2.2.2.2.1⟩)))
          (case aS => exact (below_size (hs_ HB.out)))
          (case aL => have := LMc84.out; rw [Ny922.out] at this; omega)
          intro v934 w108 ho hb hg hat
          rw [← Ny922.out] at ho
          rw [← Ny933.out] at ho
          replace BK889 := Aside0.mk (blk_grown (bq_ BK889.out) hg (Kd.S_ne HO932.out BK889.out (by decide)))
          replace BK890 := Aside0.mk (blk_grown (bq_ BK890.out) hg (Kd.S_ne HO932.out BK890.out (by decide)))
          replace BK891 := Aside0.mk (blk_grown (bq_ BK891.out) hg (Kd.S_ne HO932.out BK891.out (by decide)))
          replace BK897 := Aside0.mk (blk_grown (bq_ BK897.out) hg (Kd.S_ne HO932.out BK897.out (by decide)))
          replace BK918 := Aside0.mk (blk_grown (bq_ BK918.out) hg (Kd.S_away HO932.out (fun _ hk => hk.2.2.1)))
          replace BK929 := Aside0.mk (blk_grown (bq_ BK929.out) hg (Kd.S_away HO932.out (fun _ hk => hk.2.2.2.1)))
          replace HB := Aside0.mk (hb)
          have HO935 := Aside0.mk (ho)
          clear HO932 HO_898002
          clear ho hb hg hat
          obtain ⟨Ao109, co109, eo109⟩ := Kd.S_slice HO935.out
          (first | subst eo109 | (obtain ⟨rfl, rfl⟩ := si_ eo109))
          refine hK.out _ _ ⟨bx_ BK897.out 0, bx_ BK897.out 1, bx_ BK897.out 2, bx_ BK918.out 0, bx_ BK918.out 1⟩ (fun hHeld => ?_)
          clear hK K
          refine norm_ (a' := ?_) ?_ ?_
          rotate_left
          ·
           show Act.put _ (some 78) _ = _
           simp only [fr_]
           rfl
          refine pw_ 13 79 (b_ 14 1) rfl rfl HT_.out ?_
          refine last_ (i := 14) (N := none) #[t_,t_,t_,t_,t_,t_,t_,t_,t_,t_,t_,t_,t_,t_,t_] rfl rfl (one_of HT_.out (by kernel_rfl)) (by decide) (fun K hK => ?_)
          have hs110 : w108.cell? ⟨gb897, 2, none⟩ = some (.slice Ao61 t894.length co61) := bx_ BK897.out 2
          have hfs110 := blk_frozen BK897.out 2
          have hns110_0 := NB889_897.out
          have hns110_1 := NB890_897.out
          have hns110_2 := NB891_897.out
          have hns110_4 := NB918_897.out
          have hns110_5 := NB929_897.out
          have hms110_0 := NB897_889.out
          have hms110_1 := NB897_890.out
          have hms110_2 := NB897_891.out
          have hms110_4 := NB897_918.out
          have hms110_5 := NB897_929.out
          refine skip_ (w1 := ?_) (by rfl) rfl ?_ ?_
          rotate_left
          ·
           go_simp
           rfl
          refine hK.out _ _ ?_
          clear hK K
          refine done_ (done_of HT_.out (by kernel_rfl)) ?_
          have hnb111 := NB897_889.out
          have hnc111 := NB889_897.out
          have hnb112 := NB897_891.out
          have hnc112 := NB891_897.out
          have hnb113 := NB897_929.out
          have hnc113 := NB929_897.out
          obtain ⟨z114_0, z114_1, z114_2, y114_0, y114_1, y114_2⟩ := bc3_ BK897.out
          have hnb115 := NB891_889.out
          have hnc115 := NB889_891.out
          have hnb116 := NB891_929.out
          have hnc116 := NB929_891.out
          obtain ⟨z117_0, z117_1, z117_2, y117_0, y117_1, y117_2⟩ := bc3_ BK891.out
          try go_wp2
          refine bodyPost_ret (results_ct rfl _ _ gb891 57 #[.int .i64 t892, .int .i64 (wrap64 (t893 + 1)), .slice Ao109 y933.length co109] (0, 0) _ rfl (bp_ BK891.out) Try.underlying57 rfl (by kernel_rfl)) rfl ?_
          exact ⟨_, by first | rfl | (simp [errW_none, errW_some] <;> rfl) | (simp [*, errW_none, errW_some] <;> rfl), by (with_reducible repeat (first | apply Kd.S_alloc | apply Kd.S_drewN | apply Kd.S_drew)); exact Kd.S_mono (sf_ gb891 (Kd.S_far (p := ⟨gb897, 2, none⟩) (Kd.S_types (Kd.S_types HO935.out BK897.out (by decide)) BK891.out (by decide)) (fun _ hk => hk.1.2) (.slice Ao109 y933.length co109)) (fun _ hk => hk.2)) (fun _ hk => trivial), by exact hs_ HB.out⟩
         rw [if_neg c84] at H
         exact absurd H (by simp)
        rw [if_neg c83] at H
        exact absurd H (by simp)
       rw [if_neg c82] at H
       exact absurd H (by simp)
      rw [if_neg c81] at H
      exact absurd H (by simp)
     rw [if_neg c80] at H
     exact absurd H (by simp)
def impl_copyStore.l0 : Nat → List (S57) → List (S57) → Int → Int → Option ((List (S57)))
 | 0, _, _, _, _ => none
 | k + 1, x3, x6, x7, x8 => if x8 < x7 then (if 0 ≤ x8 then (if x8 < (x6.length : Int) then ((impl_copyPart.f k ((rd_T57 x6 x8).f0) ((rd_T57 x6 x8).f1) ((rd_T57 x6 x8).f2)).bind fun bt1060 => (if x3.length < 3518437208883 then (impl_copyStore.l0 k (x3 ++ [(⟨bt1060.1, bt1060.2.1, bt1060.2.2⟩ : S57)]) x6 x7 (wrap64 (x8 + 1))) else (none))) else (none)) else (none)) else (some x3)
def impl_copyStore.f (k : Nat) (l0 : List (S57)) : Option ((List (S57))) := impl_copyStore.l0 k ([] : List (S57)) l0 (l0.length : Int) 0
theorem impl_copyStore.mono_l : ∀ k, (∀ y0 y1 y2 y3, LeO (impl_copyStore.l0 k y0 y1 y2 y3) (impl_copyStore.l0 (k + 1) y0 y1 y2 y3))
 | 0 => fun _ _ _ _ r h => by simp [impl_copyStore.l0] at h
 | k + 1 => by
  have ih0 := impl_copyStore.mono_l k
  intro y0 y1 y2 y3
  unfold impl_copyStore.l0
  repeat' first
  | (with_reducible exact ih0 _ _ _ _)
  | (with_reducible exact impl_copyPart.mono _ _ _ _)
  | (with_reducible exact LeO.refl _)
  | (with_reducible exact LeO.none _)
  | (with_reducible refine LeO.ite ?_ ?_)
  | (with_reducible refine LeO.bind ?_ (fun _ => ?_))
  | exact ih0 _ _ _ _
  | exact impl_copyPart.mono _ _ _ _
theorem impl_copyStore.mono : ∀ a0 k, LeO (impl_copyStore.f k a0) (impl_copyStore.f (k + 1) a0) := by
 intro a0 k
 have ih0 := impl_copyStore.mono_l k
 unfold impl_copyStore.f
 repeat' first | (with_reducible first | exact ih0 _ _ _ _ | exact impl_copyPart.mono _ _ _ _ | exact LeO.refl _ | exact LeO.none _ | refine LeO.ite ?_ ?_ | refine LeO.bind ?_ (fun _ => ?_)) | exact ih0 _ _ _ _ | exact impl_copyPart.mono _ _ _ _
theorem impl_copyStore.calls (k : Nat) (A0 : Option Addr) (c0 : Nat) (l0 : List (S57)) (r : List (S57)) (w : World) (hr0 : Kd.C k57 w A0 l0.length l0) (hc0 : l0.length ≤ c0) (h : impl_copyStore.f k l0 = some r) :
  Calls Try.prog 90 #[.slice A0 l0.length c0] w fun e w' => ∃ v0_ : Value, e = .returned (v0_) ∧ Kd.S k57 57 w' w.heap.size (fun _ => True) v0_ r ∧ Below w.heap.size w w' := by
 have hu57 := Try.underlying57
 have HR0 := Aside0.mk hr0
 have HC0 := Aside0.mk hc0
 clear hr0 hc0
 have HB := Aside0.mk (Below.refl w.heap.size w)
 have H : (impl_copyStore.l0 k ([] : List (S57)) l0 (l0.length : Int) 0) = some r := h
 clear h
 have H' := Aside0.mk H
 clear H
 go_enter Try.func90, Try.ntmps90
 go_wp2
 go_loopg [3, 8] k (fun kq v3 v8 w' => ∃ (x3_1 : List (S57)) (x8_1 : Int), v8 = .int .i64 x8_1 ∧ Aside0 (impl_copyStore.l0 kq x3_1 l0 (l0.length : Int) x8_1 = some r) ∧ Aside0 (kq ≤ k) ∧ Aside0 (Kd.S k57 57 w' w.heap.size (fun _ => True) v3 x3_1) ∧ Aside0 (Below w.heap.size w w'))
 case atStart => exact ⟨(([] : List (S57))), (0), (by first | rfl | (simp; done) | (simp [*]; done)), H', ⟨Nat.le_refl _⟩, ⟨by first | exact Kd.S_nil _ _ _ _ _ | exact Kd.N_nil _ _ _ _ _ | exact Kd.V_nil _ _ _ _ _ | exact Kd.Q_nil _ _ _ _ _ | exact Kd.R_nil _ _ _ _ _⟩, ⟨by exact hs_ HB.out⟩⟩
 case round =>
  clear H'
  obtain ⟨x3_1, x8_1, rfl, HA, HK1, HO_3, HB⟩ := hrel
  cases gk with
  | zero => exact absurd HA.out (by simp [impl_copyStore.l0])
  | succ k1 =>
   have H := HA.out
   clear HA
   simp only [impl_copyStore.l0] at H
   by_cases c2 : x8_1 < (l0.length : Int)
   ·
    rw [if_pos c2] at H
    have c2b0 := decide_eq_true c2
    clear c2
    by_cases c3 : 0 ≤ x8_1
    ·
     rw [if_pos c3] at H
     have c3b0 := decide_eq_true c3
     clear c3
     by_cases c4 : x8_1 < (l0.length : Int)
     ·
      rw [if_pos c4] at H
      have c4b0 := decide_eq_true c4
      clear c4
      replace H := Option.bind_eq_some_iff.mp H
      obtain ⟨⟨t1060, t1061, t1062⟩, A50, H⟩ := H
      have A5 := Aside0.mk A50
      clear A50
      by_cases c6 : x3_1.length < 3518437208883
      ·
       rw [if_pos c6] at H
       have LMc6 := Aside0.mk c6
       clear c6
       obtain ⟨y1065, hy1065⟩ : ∃ y_ : List (S57), y_ = (x3_1 ++ [(⟨t1060, t1061, t1062⟩ : S57)]) := ⟨_, rfl⟩
       replace H : (impl_copyStore.l0 k1 y1065 l0 (l0.length : Int) (wrap64 (x8_1 + 1))) = some r := by first | (rw [hy1065]; with_reducible exact H) | (have H2_ := (Option.bind_some _ _).symm.trans H; rw [hy1065]; with_reducible exact H2_) | (have H2_ := (Option.bind_some _ _).symm.trans H; with_reducible exact H2_) | with_reducible exact H | (rw [hy1065]; exact H) | exact H
       have Ny1065 := Aside0.mk hy1065
       clear hy1065
       have H' := Aside0.mk H
       clear H
       have p1058 : 0 ≤ (x8_1 : Int) := of_decide_eq_true (by with_reducible assumption)
       have q1058 : x8_1 < (l0.length : Int) := of_decide_eq_true (by with_reducible assumption)
       obtain ⟨ad1058, A1058_2, c1058_2, e1058, hx1058_0, hx1058_1, hx1058_2, hl1058_2, hi1058_2⟩ := at_T57 HR0.out x8_1 p1058 q1058
       cases e1058
       replace hx1058_0 := cl_ HB.out hx1058_0
       replace hx1058_1 := cl_ HB.out hx1058_1
       replace hx1058_2 := cl_ HB.out hx1058_2
       have HR1058_2 := Aside0.mk hi1058_2
       have HC1058_2 := Aside0.mk hl1058_2
       clear hi1058_2 hl1058_2
       replace p1058 := eq_true p1058
       replace q1058 := eq_true q1058
       go_wp2_with (first | ((with_reducible refine gd_ 5 rfl ?_); refine bv_ 5 #[.int .i64 0, .int .i64 0, .slice none 0 0] 57 ?_; intro gb1059 hg w7 hbox hb; replace HO_3 := Aside0.mk (Kd.S_below (Kd.S_elderB (sp_ HO_3.out) gb1059 (Nat.le_of_eq hg.symm)) hb); have BK1059 := Aside0.mk (hbox); have GW1059 := Aside0.mk ((gw_ hg (hs_ HB.out))); replace HB := st_ HB hb; have GE1059 := Ge_.mk GW1059.out; clear hb hbox hg; obtain ⟨z8_0, z8_1, z8_2, y8_0, y8_1, y8_2⟩ := bc3_ BK1059.out) | ((with_reducible refine gate_callee (f := 86) rfl ?_); refine gl_ (some 14) Try.func86 #[.agg #[.int .i64 ((rd_T57 l0 x8_1).f0), .int .i64 ((rd_T57 l0 x8_1).f1), .slice A1058_2 ((rd_T57 l0 x8_1).f2).length c1058_2]] ?_; (with_reducible refine (impl_copyPart.calls k1 ((rd_T57 l0 x8_1).f0) ((rd_T57 l0 x8_1).f1) _ _ ((rd_T57 l0 x8_1).f2) t1060 t1061 t1062 _ ?side1 ?side2 A5.out).mono ?_); (case side1 => exact Kd.C_below HR1058_2.out (hs_ HB.out)); (case side2 => exact HC1058_2.out); rintro e w9 ⟨v1063, rfl, ho0, hb⟩; refine ⟨_, rfl, ?_⟩; obtain ⟨gbz1063, hz1063⟩ := Kd.S_name ho0; replace HO_3 := Aside0.mk (Kd.S_below (Kd.S_ltz hz1063 (by (with_reducible repeat (first | apply Kd.S_alloc | apply Kd.S_drewN | apply Kd.S_drew)); exact (Kd.S_mono (sf_ gb1059 (Kd.S_mono HO_3.out (fun k_ hk => (⟨hk, hk.2⟩ : _ ∧ k_ ≠ gb1059))) (fun _ hk => hk.2)) (fun _ h_ => h_.1)))) hb); have HO1064 := Aside0.mk (Kd.S_lower (Kd.S_gez hz1063 ho0) (below_size (hs_ HB.out))); replace BK1059 := Aside0.mk (blk_below (g := gb1059) (o := .cells #[.int .i64 ((rd_T57 l0 x8_1).f0), .int .i64 ((rd_T57 l0 x8_1).f1), .slice A1058_2 ((rd_T57 l0 x8_1).f2).length c1058_2] 57 (0, 0)) (bp_ BK1059.out) hb); replace HB := st_ HB hb; (try clear hb); (try clear hk); (try clear ho0); obtain ⟨Ao11, co11, eo11⟩ := Kd.S_slice HO1064.out; subst eo11; obtain ⟨PXP12, hPXP12, hPlP12⟩ := Kd.S_fp (Kd.S_types (Kd.S_apart' (HO1064.out) (Kd.S_typed HO_3.out) (by decide)) BK1059.out (by decide))) | ((with_reducible refine gate_builtin (b := .append) (xs := #[.tmp 12, .tmp 15]) rfl ?_); at_builtin; refine Kd.S_append k57 (w0 := w) w.heap.size rfl (.tmp 12) (.tmp 15) 27 57 (.agg #[(.int .i64 0), (.int .i64 0), (.slice none 0 0)]) 40 rfl Try.underlying27 info57 rfl (by decide) (by omega) u3 x3_1 (⟨t1060, t1061, t1062⟩ : S57) [.int .i64 t1060, .int .i64 t1061, .slice Ao11 t1062.length co11] (fun k_ => k_ ≠ gb1059) (fun k_ => PXP12 k_) rfl rfl ?aP (fun k_ hk_ => ⟨(hPlP12 k_ hk_).1.2, (hPlP12 k_ hk_).1.1.2⟩) ?aF ?aO ?aB ?aS ?aL ?_; (case aP => exact k57_mkM _ _ _ (⟨t1060, t1061, t1062⟩ : S57) (Kd.S_mono hPXP12 (fun _ h_ => h_))); (case aB => exact (hs_ HB.out)); (case aF => exact (fun k_ hk => Kd.freshB (g := gb1059) (o := .cells #[.int .i64 ((rd_T57 l0 x8_1).f0), .int .i64 ((rd_T57 l0 x8_1).f1), .slice A1058_2 ((rd_T57 l0 x8_1).f2).length c1058_2] 57 (0, 0)) (pb_ BK1059.out) k_ hk)); (case aO => exact (Kd.S_mono (sp_ HO_3.out) (fun k_ hk => ⟨hk.1.2, fun e_ => (fun ez_ => Nat.lt_irrefl _ (Nat.lt_of_lt_of_le hk.2 (hPlP12 _ ez_).1.1.1.2)) e_⟩))); (case aS => exact (below_size (hs_ HB.out))); (case aL => have := LMc6.out; omega); intro v1066 w10 ho hb hg hat; rw [← Ny1065.out] at ho; replace BK1059 := Aside0.mk (blk_grown (bq_ BK1059.out) hg (Kd.S_away HO_3.out (fun _ hk => hk.1.2))); replace HB := Aside0.mk (hb); have HO1067 := Aside0.mk (ho); clear HO_3 HO1064; clear ho hb hg hat))
       go_roundg k1
       case measure => have := HK1.out; omega
       case rel => exact ⟨(y1065), (wrap64 (x8_1 + 1)), (by first | rfl | (simp; done) | (simp [*]; done)), H', ⟨by have := HK1.out; omega⟩, ⟨by (with_reducible repeat (first | apply Kd.S_alloc | apply Kd.S_drewN | apply Kd.S_drew)); exact Kd.S_mono HO1067.out (fun _ hk => trivial)⟩, ⟨by exact hs_ HB.out⟩⟩
      rw [if_neg c6] at H
      exact absurd H (by simp)
     rw [if_neg c4] at H
     exact absurd H (by simp)
    rw [if_neg c3] at H
    exact absurd H (by simp)
   rw [if_neg c2] at H
   have c2b0 : decide (x8_1 < (l0.length : Int)) = false := decide_eq_false c2
   clear c2
   obtain rfl := Option.some.inj H
   go_wp2
   go_ret
   exact ⟨_, by first | rfl | (simp [errW_none, errW_some] <;> rfl) | (simp [*, errW_none, errW_some] <;> rfl), by (with_reducible repeat (first | apply Kd.S_alloc | apply Kd.S_drewN | apply Kd.S_drew)); exact HO_3.out, by exact hs_ HB.out⟩
def impl_PutAlarm.f (k : Nat) (l0 : List (S57)) (l1_0 : List (S88)) (a1_1 : Int) (a1_2 : Int) (a1_3 : ByteArray) : Option ((List (S57)) × Bool) := (impl_copyStore.f k l0).bind fun t1069 => (if (l0.length : Int) = 0 then (some (t1069, false)) else ((impl_HomeOf.f k l0 l1_0).bind fun t1072 => (if 0 ≤ t1072 then (if t1072 < (l0.length : Int) then ((impl_PutIn.f k ((rd_T57 l0 t1072).f0) ((rd_T57 l0 t1072).f1) ((rd_T57 l0 t1072).f2) l1_0 a1_1 a1_2 a1_3).bind fun bt1074 => (if t1072 < (t1069.length : Int) then (some ((t1069.set (t1072 : Int).toNat (⟨bt1074.1, bt1074.2.1, bt1074.2.2.1⟩ : S57)), bt1074.2.2.2)) else (none))) else (none)) else (none))))
theorem impl_PutAlarm.mono : ∀ a0 a1 a2 a3 a4 k, LeO (impl_PutAlarm.f k a0 a1 a2 a3 a4) (impl_PutAlarm.f (k + 1) a0 a1 a2 a3 a4) := by
 intro a0 a1 a2 a3 a4 k
 unfold impl_PutAlarm.f
 repeat' first | (with_reducible first | exact impl_HomeOf.mono _ _ _ | exact impl_PutIn.mono _ _ _ _ _ _ _ _ | exact impl_copyStore.mono _ _ | exact LeO.refl _ | exact LeO.none _ | refine LeO.ite ?_ ?_ | refine LeO.bind ?_ (fun _ => ?_)) | exact impl_HomeOf.mono _ _ _ | exact impl_PutIn.mono _ _ _ _ _ _ _ _ | exact impl_copyStore.mono _ _
def impl_PutAlarm.T5 : Bool × List (List Nat × List Nat) := (true, [([], []), ([], []), ([0, 1], [0, 1]), ([2], [2]), ([], []), ([3, 4], [3, 4]), ([5], [5]), ([6], [6]), ([6], [6]), ([], []), ([9, 7, 5, 0, 1, 2, 3, 4, 5, 6, 7, 9], [7, 9]), ([8, 10, 0, 1, 2, 3, 4, 5, 6, 7, 8, 9, 10], [8])])
def impl_PutAlarm.B5 : List Nat := [0, 0, 3, 7, 0, 31, 63, 127, 127, 0, 767, 2047]
theorem impl_PutAlarm.tab5 : rtab .any (opsOf Try.f48 5) = impl_PutAlarm.T5 := by kernel_rfl
theorem impl_PutAlarm.bits5 : waitsOk impl_PutAlarm.T5.2 impl_PutAlarm.B5 = true := by kernel_rfl
theorem impl_PutAlarm.calls (k : Nat) (A0 : Option Addr) (c0 : Nat) (l0 : List (S57)) (A1_0 : Option Addr) (c1_0 : Nat) (l1_0 : List (S88)) (a1_1 : Int) (a1_2 : Int) (a1_3 : ByteArray) (r1 : List (S57)) (r2 : Bool) (w : World) (hr0 : Kd.C k57 w A0 l0.length l0) (hc0 : l0.length ≤ c0) (hr1_0 : Kd.C k88 w A1_0 l1_0.length l1_0) (hc1_0 : l1_0.length ≤ c1_0) (h : impl_PutAlarm.f k l0 l1_0 a1_1 a1_2 a1_3 = some (r1, r2)) :
  Calls Try.prog 48 #[.slice A0 l0.length c0, .agg #[.slice A1_0 l1_0.length c1_0, .int .i64 a1_1, .int .i64 a1_2, .string a1_3]] w fun e w' => ∃ v0_ : Value, e = .returned (.tuple #[v0_, .bool r2]) ∧ Kd.S k57 57 w' w.heap.size (fun _ => True) v0_ r1 ∧ Below w.heap.size w w' := by
 have hu43 := Try.underlying43
 have hu57 := Try.underlying57
 have HR0 := Aside0.mk hr0
 have HC0 := Aside0.mk hc0
 clear hr0 hc0
 have HR1_0 := Aside0.mk hr1_0
 have HC1_0 := Aside0.mk hc1_0
 clear hr1_0 hc1_0
 have HB := Aside0.mk (Below.refl w.heap.size w)
 have H : ((impl_copyStore.f k l0).bind fun t1069 => (if (l0.length : Int) = 0 then (some (t1069, false)) else ((impl_HomeOf.f k l0 l1_0).bind fun t1072 => (if 0 ≤ t1072 then (if t1072 < (l0.length : Int) then ((impl_PutIn.f k ((rd_T57 l0 t1072).f0) ((rd_T57 l0 t1072).f1) ((rd_T57 l0 t1072).f2) l1_0 a1_1 a1_2 a1_3).bind fun bt1074 => (if t1072 < (t1069.length : Int) then (some ((t1069.set (t1072 : Int).toNat (⟨bt1074.1, bt1074.2.1, bt1074.2.2.1⟩ : S57)), bt1074.2.2.2)) else (none))) else (none)) else (none))))) = some (r1, r2) := h
 clear h
 replace H := Option.bind_eq_some_iff.mp H
 obtain ⟨t1069, A30, H⟩ := H
 have A3 := Aside0.mk A30
 clear A30
 by_cases c4 : (l0.length : Int) = 0
 ·
  rw [if_pos c4] at H
  have c4b0 : ((l0.length : Int) == 0) = true := beq_iff_eq.mpr c4
  have c4b1 : ((l0.length : Int) != 0) = false := bne_eq_false_iff_eq.mpr c4
  clear c4
  simp only [Option.some.injEq, Prod.mk.injEq] at H
  obtain ⟨rfl, rfl⟩ := H
  go_enter Try.func48, Try.ntmps48
  go_wp2_with (first | ((with_reducible refine gd_ 3 rfl ?_); refine bv_ 3 #[.slice A1_0 l1_0.length c1_0, .int .i64 a1_1, .int .i64 a1_2, .string a1_3] 43 ?_; intro gb1068 hg w5 hbox hb; have BK1068 := Aside0.mk (hbox); have GW1068 := Aside0.mk ((gw_ hg (hs_ HB.out))); replace HB := st_ HB hb; have GE1068 := Ge_.mk GW1068.out; clear hb hbox hg) | ((with_reducible refine gate_callee (f := 90) rfl ?_); refine gl_ (some 11) Try.func90 #[.slice A0 l0.length c0] ?_; (with_reducible refine (impl_copyStore.calls k _ _ l0 t1069 _ ?side1 ?side2 A3.out).mono ?_); (case side1 => exact cp_ ((Kd.C_below HR0.out HB.out))); (case side2 => exact HC0.out); rintro e w6 ⟨v1070, rfl, ho0, hb⟩; refine ⟨_, rfl, ?_⟩; obtain ⟨gbz1070, hz1070⟩ := Kd.S_name ho0; have HO1071 := Aside0.mk (Kd.S_lower (Kd.S_newB (Kd.S_gez hz1070 ho0) (g := gb1068) (o := .cells #[.slice A1_0 l1_0.length c1_0, .int .i64 a1_1, .int .i64 a1_2, .string a1_3] 43 (0, 0)) (pb_ BK1068.out)) (below_size (hs_ HB.out))); replace BK1068 := bk2_ BK1068 hb; replace HB := st_ HB hb; (try clear hb); (try clear hk); (try clear ho0)))
  go_ret2
  exact ⟨_, by first | rfl | (simp [errW_none, errW_some] <;> rfl) | (simp [*, errW_none, errW_some] <;> rfl), by (with_reducible repeat (first | apply Kd.S_alloc | apply Kd.S_drewN | apply Kd.S_drew)); exact Kd.S_mono HO1071.out (fun _ hk => trivial), by exact hs_ HB.out⟩
 rw [if_neg c4] at H
 have c4b0 : ((l0.length : Int) == 0) = false := beq_eq_false_iff_ne.mpr c4
 have c4b1 : ((l0.length : Int) != 0) = true := bne_iff_ne.mpr c4
 have c4b2 : ¬ (l0 = []) := fun h_ => c4 (by rw [h_]; rfl)
 replace H := Option.bind_eq_some_iff.mp H
 obtain ⟨t1072, A70, H⟩ := H
 have A7 := Aside0.mk A70
 clear A70
 by_cases c8 : 0 ≤ t1072
 ·
  rw [if_pos c8] at H
  have c8b0 := decide_eq_true c8
  clear c8
  by_cases c9 : t1072 < (l0.length : Int)
  ·
   rw [if_pos c9] at H
   have c9b0 := decide_eq_true c9
   clear c9
   replace H := Option.bind_eq_some_iff.mp H
   obtain ⟨⟨t1074, t1075, t1076, t1079⟩, A100, H⟩ := H
   have A10 := Aside0.mk A100
   clear A100
   by_cases c11 : t1072 < (t1069.length : Int)
   ·
    rw [if_pos c11] at H
    have c11b0 := decide_eq_true c11
    clear c11
    obtain ⟨y1081, hy1081⟩ : ∃ y_ : List (S57), y_ = (t1069.set (t1072 : Int).toNat (⟨t1074, t1075, t1076⟩ : S57)) := ⟨_, rfl⟩
    replace H : (some (y1081, t1079)) = some (r1, r2) := by first | (rw [hy1081]; with_reducible exact H) | (have H2_ := (Option.bind_some _ _).symm.trans H; rw [hy1081]; with_reducible exact H2_) | (have H2_ := (Option.bind_some _ _).symm.trans H; with_reducible exact H2_) | with_reducible exact H | (rw [hy1081]; exact H) | exact H
    have Ny1081 := Aside0.mk hy1081
    clear hy1081
    simp only [Option.some.injEq, Prod.mk.injEq] at H
    obtain ⟨rfl, rfl⟩ := H
    go_enter Try.func48, Try.ntmps48
    try go_wp2_with (first | ((with_reducible refine gd_ 3 rfl ?_); refine bv_ 3 #[.slice A1_0 l1_0.length c1_0, .int .i64 a1_1, .int .i64 a1_2, .string a1_3] 43 ?_; intro gb1068 hg w13 hbox hb; have BK1068 := Aside0.mk (hbox); have GW1068 := Aside0.mk ((gw_ hg (hs_ HB.out))); replace HB := st_ HB hb; have GE1068 := Ge_.mk GW1068.out; clear hb hbox hg) | ((with_reducible refine gate_callee (f := 90) rfl ?_); refine gl_ (some 11) Try.func90 #[.slice A0 l0.length c0] ?_; (with_reducible refine (impl_copyStore.calls k _ _ l0 t1069 _ ?side1 ?side2 A3.out).mono ?_); (case side1 => exact cp_ ((Kd.C_below HR0.out HB.out))); (case side2 => exact HC0.out); rintro e w14 ⟨v1070, rfl, ho0, hb⟩; refine ⟨_, rfl, ?_⟩; obtain ⟨gbz1070, hz1070⟩ := Kd.S_name ho0; have HO1071 := Aside0.mk (Kd.S_lower (Kd.S_newB (Kd.S_gez hz1070 ho0) (g := gb1068) (o := .cells #[.slice A1_0 l1_0.length c1_0, .int .i64 a1_1, .int .i64 a1_2, .string a1_3] 43 (0, 0)) (pb_ BK1068.out)) (below_size (hs_ HB.out))); replace BK1068 := bk2_ BK1068 hb; replace HB := st_ HB hb; (try clear hb); (try clear hk); (try clear ho0); obtain ⟨z15_0, z15_1, z15_2, z15_3, y15_0, y15_1, y15_2, y15_3⟩ := bc4_ BK1068.out) | ((with_reducible refine gate_callee (f := 17) rfl ?_); refine gl_ (some 19) Try.func17 #[.slice A0 l0.length c0, .slice A1_0 l1_0.length c1_0] ?_; (with_reducible refine (impl_HomeOf.calls k _ _ l0 _ _ l1_0 t1072 _ ?side1 ?side2 ?side3 ?side4 A7.out).mono ?_); (case side1 => exact cp_ ((Kd.C_below HR0.out HB.out))); (case side2 => exact HC0.out); (case side3 => exact cp_ ((Kd.C_below HR1_0.out HB.out))); (case side4 => exact HC1_0.out); rintro e w16 ⟨rfl, hb⟩; refine ⟨_, rfl, ?_⟩; replace HO1071 := Aside0.mk (Kd.S_below (sp_ HO1071.out) hb); replace BK1068 := bk2_ BK1068 hb; replace HB := st_ HB hb; (try clear hb); (try clear hk)))
    replace HO1071 := Aside0.mk (Kd.S_drew HO1071.out)
    replace BK1068 := Aside0.mk (blk_drew BK1068.out)
    replace HB := Aside0.mk (bd_ HB.out)
    have p1073 : 0 ≤ (t1072 : Int) := of_decide_eq_true (by with_reducible assumption)
    have q1073 : t1072 < (l0.length : Int) := of_decide_eq_true (by with_reducible assumption)
    obtain ⟨ad1073, A1073_2, c1073_2, e1073, hx1073_0, hx1073_1, hx1073_2, hl1073_2, hi1073_2⟩ := at_T57 HR0.out t1072 p1073 q1073
    have hw1073_2 := hx1073_2
    have hw1073_1 := hx1073_1
    have hw1073_0 := hx1073_0
    cases e1073
    replace hx1073_0 := cl_ HB.out hx1073_0
    replace hx1073_1 := cl_ HB.out hx1073_1
    replace hx1073_2 := cl_ HB.out hx1073_2
    have HR1073_2 := Aside0.mk hi1073_2
    have HC1073_2 := Aside0.mk hl1073_2
    clear hi1073_2 hl1073_2
    replace p1073 := eq_true p1073
    replace q1073 := eq_true q1073
    refine start_ (n := 12) (S := fun w' => w'.cell? ⟨gb1068, 0, none⟩ = some (.slice A1_0 l1_0.length c1_0) ∧ w'.cell? ⟨gb1068, 1, none⟩ = some (.int .i64 a1_1) ∧ w'.cell? ⟨gb1068, 2, none⟩ = some (.int .i64 a1_2) ∧ w'.cell? ⟨gb1068, 3, none⟩ = some (.string a1_3) ∧ w'.cell? (ad1073.add ((t1072).toNat * 3)) = some (.int .i64 ((rd_T57 l0 t1072).f0)) ∧ w'.cell? ⟨(ad1073.add ((t1072).toNat * 3)).block, (ad1073.add ((t1072).toNat * 3)).off + 1, none⟩ = some (.int .i64 ((rd_T57 l0 t1072).f1)) ∧ w'.cell? ⟨(ad1073.add ((t1072).toNat * 3)).block, (ad1073.add ((t1072).toNat * 3)).off + 2, none⟩ = some (.slice A1073_2 ((rd_T57 l0 t1072).f2).length c1073_2)) (ds := []) #[f_,f_,f_,f_,f_,f_,f_,f_,f_,f_,f_,f_] (by kernel_rfl) rfl rfl ⟨bx_ BK1068.out 0, bx_ BK1068.out 1, bx_ BK1068.out 2, bx_ BK1068.out 3, ((HB.out.cell (World.block_lt_of_cell? w _ hw1073_0)).trans hw1073_0), ((HB.out.cell (World.block_lt_of_cell? w _ hw1073_1)).trans hw1073_1), ((HB.out.cell (World.block_lt_of_cell? w _ hw1073_2)).trans hw1073_2)⟩ (fun hHeld => ?_); refine with_tabW impl_PutAlarm.tab5 impl_PutAlarm.bits5 (fun HT_ HW_ => ?_)
    generalize w16.drew = w17 at HO1071 BK1068 HB HR1073_2 hx1073_0 hx1073_1 hx1073_2 hHeld ⊢
    refine pw_ 0 21 (b_ 1 11) rfl rfl HT_.out ?_
    refine pw_ 1 22 (b_ 2 10) rfl rfl HT_.out ?_
    refine pw_ 2 23 (b_ 3 9) rfl rfl HT_.out ?_
    refine take_ (i := 3) (N := some 24) (v := ?_) (a' := ?_) #[t_,t_,t_,t_,f_,f_,f_,f_,f_,f_,f_,f_] rfl rfl (take_ofW HT_.out HW_.out (by kernel_rfl)) (fun _ _ _ h => h) (Or.inl ⟨by rfl, ?_⟩) hHeld ?_ ?_
    rotate_left
    ·
     rintro w' ⟨s0, s1, s2, s3, s4, s5, s6⟩
     go_simp
     with_reducible rfl
    rotate_left
    ·
     simp only [fr_]
     rfl
    refine take_ (i := 4) (N := some 25) (v := ?_) (a' := ?_) #[t_,t_,t_,t_,t_,f_,f_,f_,f_,f_,f_,f_] rfl rfl (take_ofW HT_.out HW_.out (by kernel_rfl)) (fun _ _ _ h => h) (Or.inl ⟨by rfl, ?_⟩) hHeld ?_ ?_
    rotate_left
    ·
     rintro w' ⟨s0, s1, s2, s3, s4, s5, s6⟩
     go_simp
     with_reducible rfl
    rotate_left
    ·
     simp only [fr_]
     rfl
    refine join_ (σ := Value × Nat × Nat) 2 #[t_,t_,t_,t_,t_,t_,t_,t_,t_,t_,f_,f_] (fun s_ => [(26, .tuple #[.agg #[.int .i64 t1074, .int .i64 t1075, s_.1], .bool t1079]), (8, .pointer (some ⟨s_.2.2, 0, none⟩)), (20, .tuple #[.agg #[.int .i64 t1074, .int .i64 t1075, s_.1], .bool t1079]), (27, .agg #[.int .i64 t1074, .int .i64 t1075, s_.1]), (28, .bool t1079)]) (fun s_ w' => (w'.cell? ⟨gb1068, 0, none⟩ = some (.slice A1_0 l1_0.length c1_0) ∧ w'.cell? ⟨gb1068, 1, none⟩ = some (.int .i64 a1_1) ∧ w'.cell? ⟨gb1068, 2, none⟩ = some (.int .i64 a1_2) ∧ w'.cell? ⟨gb1068, 3, none⟩ = some (.string a1_3) ∧ w'.cell? (ad1073.add ((t1072).toNat * 3)) = some (.int .i64 ((rd_T57 l0 t1072).f0)) ∧ w'.cell? ⟨(ad1073.add ((t1072).toNat * 3)).block, (ad1073.add ((t1072).toNat * 3)).off + 1, none⟩ = some (.int .i64 ((rd_T57 l0 t1072).f1)) ∧ w'.cell? ⟨(ad1073.add ((t1072).toNat * 3)).block, (ad1073.add ((t1072).toNat * 3)).off + 2, none⟩ = some (.slice A1073_2 ((rd_T57 l0 t1072).f2).length c1073_2)) ∧ (Kd.S k57 57 w' w.heap.size (fun k_ => k_ ≠ gb1068 ∧ k_ ≠ s_.2.2 ∧ gbz1070 ≤ k_ ∧ k_ < s_.2.1) v1070 t1069) ∧ (Kd.S k100 100 w' w.heap.size (fun k_ => k_ ≠ gb1068 ∧ s_.2.1 ≤ k_) s_.1 t1076) ∧ (w'.heap[gb1068]? = some (.cells #[.slice A1_0 l1_0.length c1_0, .int .i64 a1_1, .int .i64 a1_2, .string a1_3] 43 (0, 0))) ∧ (w'.heap[s_.2.2]? = some (.cells #[.int .i64 0, .int .i64 0, .slice none 0 0] 57 (0, 0))) ∧ (w.heap.size ≤ s_.2.2) ∧ (w.heap.size ≤ s_.2.2) ∧ (gb1068 ≠ s_.2.2) ∧ (s_.2.2 ≠ gb1068) ∧ (Below w.heap.size w w')) ?_ ?_
    rotate_left
    ·
     intro hCont
     refine two_ (i := 5) (j := 9) (Ni := some 26) (Nj := some 8) #[t_,t_,t_,t_,t_,t_,f_,f_,f_,f_,f_,f_] #[t_,t_,t_,t_,t_,f_,f_,f_,f_,t_,f_,f_] rfl rfl rfl rfl (two_of HT_.out (by kernel_rfl)) (by decide) (by decide) (fun K hK => ?_) (fun K hK => ?_)
     ·
      skip
      refine gs_ Try.func45 #[.agg #[.int .i64 ((rd_T57 l0 t1072).f0), .int .i64 ((rd_T57 l0 t1072).f1), .slice A1073_2 ((rd_T57 l0 t1072).f2).length c1073_2], .agg #[.slice A1_0 l1_0.length c1_0, .int .i64 a1_1, .int .i64 a1_2, .string a1_3]] ?_
      with_reducible refine (impl_PutIn.calls k ((rd_T57 l0 t1072).f0) ((rd_T57 l0 t1072).f1) _ _ ((rd_T57 l0 t1072).f2) _ _ l1_0 a1_1 a1_2 a1_3 t1074 t1075 t1076 t1079 _ ?side1 ?side2 ?side3 ?side4 A10.out).mono ?_
      (case side1 => exact cp_ ((Kd.C_below HR1073_2.out HB.out)))
      (case side2 => exact HC1073_2.out)
      (case side3 => exact cp_ ((Kd.C_below HR1_0.out HB.out)))
      (case side4 => exact HC1_0.out)
      rintro e w18 ⟨v1077, rfl, ho0, hb⟩
      refine ⟨_, rfl, ?_⟩
      obtain ⟨gbz1077, hz1077⟩ := Kd.S_name ho0
      replace HO1071 := Aside0.mk (Kd.S_below (Kd.S_ltz hz1077 (sp_ HO1071.out)) hb)
      have HO1078 := Aside0.mk (Kd.S_lower (Kd.S_newB (Kd.S_gez hz1077 ho0) (g := gb1068) (o := .cells #[.slice A1_0 l1_0.length c1_0, .int .i64 a1_1, .int .i64 a1_2, .string a1_3] 43 (0, 0)) (pb_ BK1068.out)) (below_size (hs_ HB.out)))
      replace BK1068 := bk2_ BK1068 hb
      replace HB := st_ HB hb
      (try clear hb)
      (try clear hk)
      (try clear ho0)
      refine hK.out _ _ ⟨bx_ BK1068.out 0, bx_ BK1068.out 1, bx_ BK1068.out 2, bx_ BK1068.out 3, ((HB.out.cell (World.block_lt_of_cell? w _ hw1073_0)).trans hw1073_0), ((HB.out.cell (World.block_lt_of_cell? w _ hw1073_1)).trans hw1073_1), ((HB.out.cell (World.block_lt_of_cell? w _ hw1073_2)).trans hw1073_2)⟩ (fun hHeld => ?_)
      clear hK K
      refine norm_ (a' := ?_) ?_ ?_
      rotate_left
      ·
       show Act.put _ (some 26) _ = _
       simp only [fr_]
       rfl
      refine pw_ 6 20 (b_ 7 5) rfl rfl HT_.out ?_
      refine pw_ 7 27 (b_ 8 4) rfl rfl HT_.out ?_
      refine pw_ 8 28 (b_ 9 3) rfl rfl HT_.out ?_
      refine one_ (i := 9) (N := some 8) #[t_,t_,t_,t_,t_,t_,t_,t_,t_,t_,f_,f_] rfl rfl (one_of HT_.out (by kernel_rfl)) (by decide) (fun K hK => ?_)
      refine bs1_ 8 #[.int .i64 0, .int .i64 0, .slice none 0 0] 57 ?_
      intro gb1080 hg w19 hbox hb
      replace HO1071 := Aside0.mk (Kd.S_below (Kd.S_elderB (sp_ HO1071.out) gb1080 (Nat.le_of_eq hg.symm)) hb)
      replace HO1078 := Aside0.mk (Kd.S_below (sp_ HO1078.out) hb)
      have BK1080 := Aside0.mk (hbox)
      have GW1080 := Aside0.mk ((gw_ hg (hs_ HB.out)))
      have GE1080 := Ge_.mk ((gw_ hg (hs_ HB.out)))
      replace HB := st_ HB hb
      have NB1068_1080 := Ne_.mk (nl_ BK1068.out hg)
      have NB1080_1068 := Ne_.mk (ng_ BK1068.out hg)
      replace BK1068 := bk2_ BK1068 hb
      clear hb hbox hg
      refine hK.out _ _ ⟨bx_ BK1068.out 0, bx_ BK1068.out 1, bx_ BK1068.out 2, bx_ BK1068.out 3, ((HB.out.cell (World.block_lt_of_cell? w _ hw1073_0)).trans hw1073_0), ((HB.out.cell (World.block_lt_of_cell? w _ hw1073_1)).trans hw1073_1), ((HB.out.cell (World.block_lt_of_cell? w _ hw1073_2)).trans hw1073_2)⟩ (fun hHeld => ?_)
      clear hK K
      refine norm_ (a' := ?_) ?_ ?_
      rotate_left
      ·
       show Act.put _ (some 8) _ = _
       simp only [fr_]
       rfl
      exact norm_ (by simp only [putAll, fr_]) (hCont (v1077, gbz1077, gb1080) _ ⟨hHeld, (Kd.S_mono (sp_ HO1071.out) (fun _ hk => ⟨hk.1.1.2, ⟨hk.2, ⟨hk.1.1.1.2, hk.1.2⟩⟩⟩)), (Kd.S_mono (sp_ HO1078.out) (fun _ hk => ⟨hk.2, hk.1.2⟩)), (pb_ BK1068.out), (pb_ BK1080.out), GW1080.out, GE1080.out, NB1068_1080.out, NB1080_1068.out, (hs_ HB.out)⟩)
     skip
     refine bs1_ 8 #[.int .i64 0, .int .i64 0, .slice none 0 0] 57 ?_
     intro gb1080 hg w18 hbox hb
     replace HO1071 := Aside0.mk (Kd.S_below (Kd.S_elderB (sp_ HO1071.out) gb1080 (Nat.le_of_eq hg.symm)) hb)
     have BK1080 := Aside0.mk (hbox)
     have GW1080 := Aside0.mk ((gw_ hg (hs_ HB.out)))
     have GE1080 := Ge_.mk ((gw_ hg (hs_ HB.out)))
     replace HB := st_ HB hb
     have NB1068_1080 := Ne_.mk (nl_ BK1068.out hg)
     have NB1080_1068 := Ne_.mk (ng_ BK1068.out hg)
     replace BK1068 := bk2_ BK1068 hb
     clear hb hbox hg
     refine hK.out _ _ ⟨bx_ BK1068.out 0, bx_ BK1068.out 1, bx_ BK1068.out 2, bx_ BK1068.out 3, ((HB.out.cell (World.block_lt_of_cell? w _ hw1073_0)).trans hw1073_0), ((HB.out.cell (World.block_lt_of_cell? w _ hw1073_1)).trans hw1073_1), ((HB.out.cell (World.block_lt_of_cell? w _ hw1073_2)).trans hw1073_2)⟩ (fun hHeld => ?_)
     clear hK K
     refine norm_ (a' := ?_) ?_ ?_
     rotate_left
     ·
      show Act.put _ (some 8) _ = _
      simp only [fr_]
      rfl
     refine one_ (i := 5) (N := some 26) #[t_,t_,t_,t_,t_,t_,f_,f_,f_,t_,f_,f_] rfl rfl (one_of HT_.out (by kernel_rfl)) (by decide) (fun K hK => ?_)
     refine gs_ Try.func45 #[.agg #[.int .i64 ((rd_T57 l0 t1072).f0), .int .i64 ((rd_T57 l0 t1072).f1), .slice A1073_2 ((rd_T57 l0 t1072).f2).length c1073_2], .agg #[.slice A1_0 l1_0.length c1_0, .int .i64 a1_1, .int .i64 a1_2, .string a1_3]] ?_
     with_reducible refine (impl_PutIn.calls k ((rd_T57 l0 t1072).f0) ((rd_T57 l0 t1072).f1) _ _ ((rd_T57 l0 t1072).f2) _ _ l1_0 a1_1 a1_2 a1_3 t1074 t1075 t1076 t1079 _ ?side1 ?side2 ?side3 ?side4 A10.out).mono ?_
     (case side1 => exact cp_ ((Kd.C_below HR1073_2.out HB.out)))
     (case side2 => exact HC1073_2.out)
     (case side3 => exact cp_ ((Kd.C_below HR1_0.out HB.out)))
     (case side4 => exact HC1_0.out)
     rintro e w19 ⟨v1077, rfl, ho0, hb⟩
     refine ⟨_, rfl, ?_⟩
     obtain ⟨gbz1077, hz1077⟩ := Kd.S_name ho0
     replace HO1071 := Aside0.mk (Kd.S_below (Kd.S_ltz hz1077 (sp_ HO1071.out)) hb)
     have HO1078 := Aside0.mk (Kd.S_lower (Kd.S_newB (Kd.S_gez hz1077 ho0) (g := gb1068) (o := .cells #[.slice A1_0 l1_0.length c1_0, .int .i64 a1_1, .int .i64 a1_2, .string a1_3] 43 (0, 0)) (pb_ BK1068.out)) (below_size (hs_ HB.out)))
     replace BK1068 := bk2_ BK1068 hb
     replace BK1080 := bk2_ BK1080 hb
     replace HB := st_ HB hb
     (try clear hb)
     (try clear hk)
     (try clear ho0)
     refine hK.out _ _ ⟨bx_ BK1068.out 0, bx_ BK1068.out 1, bx_ BK1068.out 2, bx_ BK1068.out 3, ((HB.out.cell (World.block_lt_of_cell? w _ hw1073_0)).trans hw1073_0), ((HB.out.cell (World.block_lt_of_cell? w _ hw1073_1)).trans hw1073_1), ((HB.out.cell (World.block_lt_of_cell? w _ hw1073_2)).trans hw1073_2)⟩ (fun hHeld => ?_)
     clear hK K
     refine norm_ (a' := ?_) ?_ ?_
     rotate_left
     ·
      show Act.put _ (some 26) _ = _
      simp only [fr_]
      rfl
     refine pw_ 6 20 #[t_,t_,t_,t_,t_,t_,t_,f_,f_,t_,f_,f_] rfl rfl HT_.out ?_
     refine pw_ 7 27 #[t_,t_,t_,t_,t_,t_,t_,t_,f_,t_,f_,f_] rfl rfl HT_.out ?_
     refine pw_ 8 28 (b_ 10 2) rfl rfl HT_.out ?_
     exact norm_ (by simp only [putAll, fr_]) (hCont (v1077, gbz1077, gb1080) _ ⟨hHeld, (Kd.S_mono (sp_ HO1071.out) (fun _ hk => ⟨hk.1.1.2, ⟨hk.1.2, ⟨hk.1.1.1.2, hk.2⟩⟩⟩)), (Kd.S_mono (sp_ HO1078.out) (fun _ hk => ⟨hk.2, hk.1.2⟩)), (pb_ BK1068.out), (pb_ BK1080.out), GW1080.out, GE1080.out, NB1068_1080.out, NB1080_1068.out, (hs_ HB.out)⟩)
    rintro ⟨v1077, gbz1077, gb1080⟩ w20 ⟨hS_, h0_, h1_, h2_, h3_, h4_, h5_, h6_, h7_, h8_⟩
    replace HO1071 : Aside0 (Kd.S k57 57 w20 w.heap.size (fun k_ => k_ ≠ gb1068 ∧ k_ ≠ gb1080 ∧ gbz1070 ≤ k_ ∧ k_ < gbz1077) v1070 t1069) := ⟨h0_⟩
    have HO1078 : Aside0 (Kd.S k100 100 w20 w.heap.size (fun k_ => k_ ≠ gb1068 ∧ gbz1077 ≤ k_) v1077 t1076) := ⟨h1_⟩
    replace BK1068 : Aside0 (w20.heap[gb1068]? = some (.cells #[.slice A1_0 l1_0.length c1_0, .int .i64 a1_1, .int .i64 a1_2, .string a1_3] 43 (0, 0))) := ⟨h2_⟩
    have BK1080 : Aside0 (w20.heap[gb1080]? = some (.cells #[.int .i64 0, .int .i64 0, .slice none 0 0] 57 (0, 0))) := ⟨h3_⟩
    have GW1080 : Aside0 (w.heap.size ≤ gb1080) := ⟨h4_⟩
    have GE1080 := Ge_.mk h5_
    have NB1068_1080 := Ne_.mk h6_
    have NB1080_1068 := Ne_.mk h7_
    replace HB : Aside0 (Below w.heap.size w w20) := ⟨h8_⟩
    clear h0_ h1_ h2_ h3_ h4_ h5_ h6_ h7_ h8_
    have hHeld : w20.cell? ⟨gb1068, 0, none⟩ = some (.slice A1_0 l1_0.length c1_0) ∧ w20.cell? ⟨gb1068, 1, none⟩ = some (.int .i64 a1_1) ∧ w20.cell? ⟨gb1068, 2, none⟩ = some (.int .i64 a1_2) ∧ w20.cell? ⟨gb1068, 3, none⟩ = some (.string a1_3) ∧ w20.cell? (ad1073.add ((t1072).toNat * 3)) = some (.int .i64 ((rd_T57 l0 t1072).f0)) ∧ w20.cell? ⟨(ad1073.add ((t1072).toNat * 3)).block, (ad1073.add ((t1072).toNat * 3)).off + 1, none⟩ = some (.int .i64 ((rd_T57 l0 t1072).f1)) ∧ w20.cell? ⟨(ad1073.add ((t1072).toNat * 3)).block, (ad1073.add ((t1072).toNat * 3)).off + 2, none⟩ = some (.slice A1073_2 ((rd_T57 l0 t1072).f2).length c1073_2) := hS_
    obtain ⟨Ao23, co23, eo23⟩ := Kd.S_slice HO1078.out
    (first | subst eo23 | (obtain ⟨rfl, rfl⟩ := si_ eo23))
    refine norm_ (a' := ?_) ?_ ?_
    rotate_left
    ·
     simp only [putAll, fr_]
     rfl
    refine one_ (i := 10) (N := none) #[t_,t_,t_,t_,t_,t_,t_,t_,t_,t_,t_,f_] rfl rfl (one_of HT_.out (by kernel_rfl)) (by decide) (fun K hK => ?_)
    have hs21 : w20.cell? ⟨gb1080, 0, none⟩ = some (.int .i64 0) := bx_ BK1080.out 0
    have hfs21 := blk_frozen BK1080.out 0
    have hns21_0 := NB1068_1080.out
    have hms21_0 := NB1080_1068.out
    have hs22 : w20.cell? ⟨gb1080, 1, none⟩ = some (.int .i64 0) := bx_ BK1080.out 1
    have hfs22 := blk_frozen BK1080.out 1
    have hns22_0 := NB1068_1080.out
    have hms22_0 := NB1080_1068.out
    have hs24 : w20.cell? ⟨gb1080, 2, none⟩ = some (.slice none 0 0) := bx_ BK1080.out 2
    have hfs24 := blk_frozen BK1080.out 2
    have hns24_0 := NB1068_1080.out
    have hms24_0 := NB1080_1068.out
    refine skip_ (w1 := ?_) (by rfl) rfl ?_ ?_
    rotate_left
    ·
     go_simp
     rfl
    refine hK.out _ _ ⟨(cg_ (hHeld.1)), (cg_ (hHeld.2.1)), (cg_ (hHeld.2.2.1)), (cg_ (hHeld.2.2.2.1)), (ce_ hw1073_0 GW1080.out ((ce_ hw1073_0 GW1080.out ((ce_ hw1073_0 GW1080.out (hHeld.2.2.2.2.1)))))), (ce_ hw1073_1 GW1080.out ((ce_ hw1073_1 GW1080.out ((ce_ hw1073_1 GW1080.out (hHeld.2.2.2.2.2.1)))))), (ce_ hw1073_2 GW1080.out ((ce_ hw1073_2 GW1080.out ((ce_ hw1073_2 GW1080.out (hHeld.2.2.2.2.2.2))))))⟩ (fun hHeld => ?_)
    clear hK K
    refine pw_ 11 9 (b_ 12 0) rfl rfl HT_.out ?_
    refine done_ (done_of HT_.out (by kernel_rfl)) ?_
    generalize hw_ : (((w20.setCell ⟨gb1080, 0, none⟩ (.int .i64 t1074)).setCell ⟨gb1080, 1, none⟩ (.int .i64 t1075)).setCell ⟨gb1080, 2, none⟩ (.slice Ao23 t1076.length co23)) = w25
    have n0_ : Aside0 (Kd.S k57 57 w25 w.heap.size (fun k_ => k_ ≠ gb1068 ∧ k_ ≠ gb1080 ∧ gbz1070 ≤ k_ ∧ k_ < gbz1077) v1070 t1069) := ⟨by rw [← hw_]; exact (Kd.S_mono (sf_ gb1080 (Kd.S_mono HO1071.out (fun k_ hk => (⟨hk, hk.2.1⟩ : _ ∧ k_ ≠ gb1080))) (fun _ hk => hk.2)) (fun _ hk => ⟨hk.1.1, ⟨hk.1.2.1, ⟨hk.1.2.2.1, hk.1.2.2.2⟩⟩⟩))⟩
    have n1_ : Aside0 (Kd.S k100 100 w25 w.heap.size (fun k_ => k_ ≠ gb1068 ∧ gbz1077 ≤ k_) (.slice Ao23 t1076.length co23) t1076) := ⟨by rw [← hw_]; exact (Kd.S_mono (sf_ gb1080 (Kd.S_types HO1078.out BK1080.out (by decide)) (fun _ hk => hk.2)) (fun _ hk => ⟨hk.1.1, hk.1.2⟩))⟩
    have n2_ : Aside0 (w25.heap[gb1068]? = some (.cells #[.slice A1_0 l1_0.length c1_0, .int .i64 a1_1, .int .i64 a1_2, .string a1_3] 43 (0, 0))) := ⟨by rw [← hw_]; exact (bq_ BK1068.out)⟩
    have n3_ : Aside0 (w25.heap[gb1080]? = some (.cells #[.int .i64 t1074, .int .i64 t1075, .slice Ao23 t1076.length co23] 57 (0, 0))) := ⟨by rw [← hw_]; exact (bp_ BK1080.out)⟩
    have n4_ : Aside0 (Below w.heap.size w w25) := ⟨by rw [← hw_]; exact (hs_ HB.out)⟩
    clear hw_
    (try clear HO1071)
    (try clear HO1078)
    (try clear BK1068)
    (try clear BK1080)
    (try clear HB)
    have HO1071 := n0_
    have HO1078 := n1_
    have BK1068 := n2_
    have BK1080 := n3_
    have HB := n4_
    clear n0_ n1_ n2_ n3_ n4_
    have hnb26 := NB1080_1068.out
    have hnc26 := NB1068_1080.out
    obtain ⟨z27_0, z27_1, z27_2, y27_0, y27_1, y27_2⟩ := bc3_ BK1080.out
    have p12 : 0 ≤ (t1072 : Int) := of_decide_eq_true (by with_reducible assumption)
    have q12 : (t1072 : Int) < ((t1069.length : Int) : Int) := of_decide_eq_true (by with_reducible assumption)
    obtain ⟨go12, co12, eo12, gb12, gl12, cl12, HG12⟩ := Kd.S_form HO1071.out (by omega)
    (first | cases eo12 | (injection eo12 with ea_ en_ ec_; (first | subst ea_ | (injection ea_ with ea_; subst ea_)); subst ec_; clear en_))
    have GB12 := Aside0.mk gb12
    have GG12 := Aside0.mk HG12
    clear gb12 gl12 HG12
    obtain ⟨_, ce12, hcl12, hM12, hcc12, hfr12, _, _⟩ := Kd.S_elem HO1071.out z57 (t1072 : Int) p12 q12
    obtain ⟨ve12_2, rfl, ge12_2⟩ := k57_openM hM12
    have hx12_0 : w25.cell? ⟨go12, (t1072 : Int).toNat * 3, none⟩ = some (.int .i64 ((rd_T57 t1069 t1072).f0)) := hcc12 0 _ rfl
    have hx12_1 : w25.cell? ⟨go12, (t1072 : Int).toNat * 3 + 1, none⟩ = some (.int .i64 ((rd_T57 t1069 t1072).f1)) := hcc12 1 _ rfl
    have hx12_2 : w25.cell? ⟨go12, (t1072 : Int).toNat * 3 + 2, none⟩ = some (ve12_2) := hcc12 2 _ rfl
    have hf12_0 : w25.frozen? ⟨go12, (t1072 : Int).toNat * 3, none⟩ = false := hfr12 0
    have hf12_1 : w25.frozen? ⟨go12, (t1072 : Int).toNat * 3 + 1, none⟩ = false := hfr12 1
    have hf12_2 : w25.frozen? ⟨go12, (t1072 : Int).toNat * 3 + 2, none⟩ = false := hfr12 2
    clear hcl12 hcc12 hfr12 hM12
    replace p12 := eq_true p12
    replace q12 := eq_true q12
    obtain ⟨PXP30, hPXP30, hPlP30⟩ := Kd.S_fp (Kd.S_types (Kd.S_apart' (HO1078.out) (Kd.S_typed HO1071.out) (by decide)) BK1080.out (by decide))
    have HX28 := Aside0.mk (show Kd.S k57 57 w25 w.heap.size (fun k_ => ((fun k_ => k_ ≠ gb1068 ∧ k_ ≠ gb1080)) k_ ∧ ¬ ((fun k_ => PXP30 k_)) k_) (.slice (some ⟨go12, 0, none⟩) t1069.length co12) t1069 from (Kd.S_mono (sp_ HO1071.out) (fun k_ hk => ⟨⟨hk.1, hk.2.1⟩, fun e_ => (fun ez_ => Nat.lt_irrefl _ (Nat.lt_of_lt_of_le hk.2.2.2 (hPlP30 _ ez_).1.1.1.2)) e_⟩)))
    obtain ⟨oki28, ce28, hcl28, hM28, hcc28, hfr28, hoki28, hH28⟩ := Kd.S_elem HX28.out z57 (t1072 : Int) (of_decide_eq_true (by with_reducible assumption)) (by have h_ : (t1072 : Int) < ((t1069.length : Int) : Int) := of_decide_eq_true (by with_reducible assumption); first | exact h_ | (have e_ := (Kd.S_reads' HO1071.out).1; omega) | simpa using h_)
    obtain ⟨ve28_2, rfl, ge28_2⟩ := k57_openM hM28
    have HP28 := Kd.S_seg hH28 (of_decide_eq_true (by with_reducible assumption)) (by have h_ : (t1072 : Int) < ((t1069.length : Int) : Int) := of_decide_eq_true (by with_reducible assumption); first | exact h_ | (have e_ := (Kd.S_reads' HO1071.out).1; omega) | simpa using h_) (seg := [.int .i64 t1074, .int .i64 t1075, .slice Ao23 t1076.length co23]) (j := 0) (show 3 ≤ 3 from by decide) (x' := (⟨t1074, t1075, t1076⟩ : S57)) (k57_mkM _ _ _ (⟨t1074, t1075, t1076⟩ : S57) (Kd.S_mono hPXP30 (fun _ h_ => Or.inr (h_)))) (fun _ hk => hk) (fun k_ hk_ => ⟨⟨(hPlP30 k_ hk_).1.1.1.1, (hPlP30 k_ hk_).1.2⟩, fun e_ => ((hPlP30 k_ hk_).1.1.2) (by rw [e_]; rfl)⟩)
    have hx28_0 := hcc28 0 _ rfl
    (try simp only [show (k57).sz = 3 from rfl, Nat.mul_one, Nat.add_zero] at hx28_0)
    have hf28_0 := hfr28 0
    (try simp only [show (k57).sz = 3 from rfl, Nat.mul_one, Nat.add_zero] at hf28_0)
    have hx28_1 := hcc28 1 _ rfl
    (try simp only [show (k57).sz = 3 from rfl, Nat.mul_one, Nat.add_zero] at hx28_1)
    have hf28_1 := hfr28 1
    (try simp only [show (k57).sz = 3 from rfl, Nat.mul_one, Nat.add_zero] at hf28_1)
    have hx28_2 := hcc28 2 _ rfl
    (try simp only [show (k57).sz = 3 from rfl, Nat.mul_one, Nat.add_zero] at hx28_2)
    have hf28_2 := hfr28 2
    (try simp only [show (k57).sz = 3 from rfl, Nat.mul_one, Nat.add_zero] at hf28_2)
    clear hcl28 hcc28 hfr28 hM28 hoki28 hH28
    try go_wp2_with (first | ((with_reducible refine gate_store (t := 57) (p := 32) rfl ?_); refine store_event (t := 57) (p := 32) (v := ?vo_w29) (w1 := (((w25.setCell ⟨go12, (t1072 : Int).toNat * 3, none⟩ (.int .i64 t1074)).setCell ⟨go12, (t1072 : Int).toNat * 3 + 1, none⟩ (.int .i64 t1075)).setCell ⟨go12, (t1072 : Int).toNat * 3 + 2, none⟩ (.slice Ao23 t1076.length co23))) ?hg ?ho ?hn ?hr ?_; (case ho => rfl); (case hg => rfl); (case hn => rfl); (case hr => first | (go_simp; done) | (go_simp; rfl)); intro w29 hw; have hg : w25.grownBy w29 (some go12) := (by rw [hw]; exact HP28.2); have hp_ : Kd.S k57 57 w29 w.heap.size (fun k_ => k_ ≠ gb1068 ∧ k_ ≠ gb1080) (.slice (some ⟨go12, 0, none⟩) t1069.length co12) y1081 := (by rw [hw, Ny1081.out]; exact HP28.1); clear HP28; replace BK1068 := Aside0.mk (blk_grown (bq_ BK1068.out) hg (Kd.S_ne HO1071.out BK1068.out (by decide))); replace BK1080 := Aside0.mk (blk_grown (bq_ BK1080.out) hg (Kd.S_away HO1071.out (fun _ hk => hk.2.1))); replace HO1071 := Aside0.mk (hp_); replace HB := Aside0.mk ((by rw [hw]; exact below_set (below_set (below_set (HB.out) GB12.out) GB12.out) GB12.out : Below w.heap.size w w29)); clear HO1078; clear hg hw hp_))
    go_ret2
    exact ⟨_, by first | rfl | (simp [errW_none, errW_some] <;> rfl) | (simp [*, errW_none, errW_some] <;> rfl), by (with_reducible repeat (first | apply Kd.S_alloc | apply Kd.S_drewN | apply Kd.S_drew)); exact Kd.S_mono HO1071.out (fun _ hk => trivial), by exact hs_ HB.out⟩
   rw [if_neg c11] at H
   exact absurd H (by simp)
  rw [if_neg c9] at H
  exact absurd H (by simp)
 rw [if_neg c8] at H
 exact absurd H (by simp)
def laws_heldLabelS.l0 : Nat → List (S88) → Int → Int → Option (Int)
 | 0, _, _, _ => none
 | k + 1, x0, x1, x5 => if x5 < (x0.length : Int) then (if 0 ≤ x5 then ((laws_markText.f k x1).bind fun t535 => (if ((rd_T88 x0 x5).f0).toList = t535.toList then ((laws_markText.f k (wrap64 (x1 + 1))).bind fun t537 => (if ((rd_T88 x0 x5).f1).toList = t537.toList then (laws_heldLabelS.l0 k x0 (wrap64 ((wrap64 (x1 + 1)) + 1)) (wrap64 (x5 + 1))) else (none))) else (none))) else (none)) else (some x1)
def laws_heldLabelS.f (k : Nat) (l0 : List (S88)) (a1 : Int) : Option (Int) := laws_heldLabelS.l0 k l0 a1 0
theorem laws_heldLabelS.mono_l : ∀ k, (∀ y0 y1 y2, LeO (laws_heldLabelS.l0 k y0 y1 y2) (laws_heldLabelS.l0 (k + 1) y0 y1 y2))
 | 0 => fun _ _ _ r h => by simp [laws_heldLabelS.l0] at h
 | k + 1 => by
  have ih0 := laws_heldLabelS.mono_l k
  intro y0 y1 y2
  unfold laws_heldLabelS.l0
  repeat' first
  | (with_reducible exact ih0 _ _ _)
  | (with_reducible exact laws_markText.mono _ _)
  | (with_reducible exact LeO.refl _)
  | (with_reducible exact LeO.none _)
  | (with_reducible refine LeO.ite ?_ ?_)
  | (with_reducible refine LeO.bind ?_ (fun _ => ?_))
  | exact ih0 _ _ _
  | exact laws_markText.mono _ _
theorem laws_heldLabelS.mono : ∀ a0 a1 k, LeO (laws_heldLabelS.f k a0 a1) (laws_heldLabelS.f (k + 1) a0 a1) := by
 intro a0 a1 k
 have ih0 := laws_heldLabelS.mono_l k
 unfold laws_heldLabelS.f
 repeat' first | (with_reducible first | exact ih0 _ _ _ | exact laws_markText.mono _ _ | exact LeO.refl _ | exact LeO.none _ | refine LeO.ite ?_ ?_ | refine LeO.bind ?_ (fun _ => ?_)) | exact ih0 _ _ _ | exact laws_markText.mono _ _
def laws_heldLabelS.T4 : Bool × List (List Nat × List Nat) := (true, [([], []), ([], []), ([0, 1], [0, 1]), ([2], [2]), ([3], [3]), ([], []), ([5], [5]), ([4, 6], [4, 6])])
def laws_heldLabelS.B4 : List Nat := [0, 0, 3, 7, 15, 0, 32, 127]
theorem laws_heldLabelS.tab4 : rtab .any (opsOf Try.f83 4) = laws_heldLabelS.T4 := by kernel_rfl
theorem laws_heldLabelS.bits4 : waitsOk laws_heldLabelS.T4.2 laws_heldLabelS.B4 = true := by kernel_rfl
def laws_heldLabelS.T7 : Bool × List (List Nat × List Nat) := (true, [([], []), ([], []), ([0, 1], [0, 1]), ([2], [2]), ([3], [3]), ([], []), ([5], [5]), ([4, 6], [4, 6])])
def laws_heldLabelS.B7 : List Nat := [0, 0, 3, 7, 15, 0, 32, 127]
theorem laws_heldLabelS.tab7 : rtab .any (opsOf Try.f83 7) = laws_heldLabelS.T7 := by kernel_rfl
theorem laws_heldLabelS.bits7 : waitsOk laws_heldLabelS.T7.2 laws_heldLabelS.B7 = true := by kernel_rfl
theorem laws_heldLabelS.calls (k : Nat) (A0 : Option Addr) (c0 : Nat) (l0 : List (S88)) (a1 : Int) (r : Int) (w : World) (hr0 : Kd.C k88 w A0 l0.length l0) (hc0 : l0.length ≤ c0) (h : laws_heldLabelS.f k l0 a1 = some r) :
  Calls Try.prog 83 #[.slice A0 l0.length c0, .int .i64 a1] w fun e w' => e = .returned (.int .i64 r) ∧ Below w.heap.size w w' := by
 have HR0 := Aside0.mk hr0
 have HC0 := Aside0.mk hc0
 clear hr0 hc0
 have HB := Aside0.mk (Below.refl w.heap.size w)
 have H : (laws_heldLabelS.l0 k l0 a1 0) = some r := h
 clear h
 have H' := Aside0.mk H
 clear H
 go_enter Try.func83, Try.ntmps83
 go_wp2
 go_loopg [1, 5] k (fun kq v1 v5 w' => ∃ (x1_1 : Int) (x5_1 : Int), v1 = .int .i64 x1_1 ∧ v5 = .int .i64 x5_1 ∧ Aside0 (laws_heldLabelS.l0 kq l0 x1_1 x5_1 = some r) ∧ Aside0 (kq ≤ k) ∧ Aside0 (Below w.heap.size w w'))
 case atStart => exact ⟨(a1), (0), (by first | rfl | (simp; done) | (simp [*]; done)), (by first | rfl | (simp; done) | (simp [*]; done)), H', ⟨Nat.le_refl _⟩, ⟨by exact hs_ HB.out⟩⟩
 case round =>
  clear H'
  try clear p2
  obtain ⟨x1_1, x5_1, rfl, rfl, HA, HK1, HB⟩ := hrel
  cases gk with
  | zero => exact absurd HA.out (by simp [laws_heldLabelS.l0])
  | succ k1 =>
   have H := HA.out
   clear HA
   simp only [laws_heldLabelS.l0] at H
   by_cases c3 : x5_1 < (l0.length : Int)
   ·
    rw [if_pos c3] at H
    have c3b0 := decide_eq_true c3
    clear c3
    by_cases c4 : 0 ≤ x5_1
    ·
     rw [if_pos c4] at H
     have c4b0 := decide_eq_true c4
     clear c4
     replace H := Option.bind_eq_some_iff.mp H
     obtain ⟨t535, A50, H⟩ := H
     have A5 := Aside0.mk A50
     clear A50
     by_cases c6 : ((rd_T88 l0 x5_1).f0).toList = t535.toList
     ·
      rw [if_pos c6] at H
      have c6b0 : (((rd_T88 l0 x5_1).f0).toList == t535.toList) = true := beq_iff_eq.mpr c6
      have c6b1 : (((rd_T88 l0 x5_1).f0).toList != t535.toList) = false := bne_eq_false_iff_eq.mpr c6
      clear c6
      replace H := Option.bind_eq_some_iff.mp H
      obtain ⟨t537, A70, H⟩ := H
      have A7 := Aside0.mk A70
      clear A70
      by_cases c8 : ((rd_T88 l0 x5_1).f1).toList = t537.toList
      ·
       rw [if_pos c8] at H
       have c8b0 : (((rd_T88 l0 x5_1).f1).toList == t537.toList) = true := beq_iff_eq.mpr c8
       have c8b1 : (((rd_T88 l0 x5_1).f1).toList != t537.toList) = false := bne_eq_false_iff_eq.mpr c8
       clear c8
       have H' := Aside0.mk H
       clear H
       try go_wp2
       replace HB := Aside0.mk (bd_ HB.out)
       have p534 : 0 ≤ (x5_1 : Int) := of_decide_eq_true (by with_reducible assumption)
       have q534 : x5_1 < (l0.length : Int) := of_decide_eq_true (by with_reducible assumption)
       obtain ⟨ad534, e534, hx534_0, hx534_1⟩ := at_T88 HR0.out x5_1 p534 q534
       have hw534_1 := hx534_1
       have hw534_0 := hx534_0
       cases e534
       replace hx534_0 := cl_ HB.out hx534_0
       replace hx534_1 := cl_ HB.out hx534_1
       replace p534 := eq_true p534
       replace q534 := eq_true q534
       refine start_ (n := 8) (S := fun w' => w'.cell? (ad534.add ((x5_1).toNat * 2)) = some (.string ((rd_T88 l0 x5_1).f0)) ∧ w'.cell? ⟨(ad534.add ((x5_1).toNat * 2)).block, (ad534.add ((x5_1).toNat * 2)).off + 1, none⟩ = some (.string ((rd_T88 l0 x5_1).f1))) (ds := []) #[f_,f_,f_,f_,f_,f_,f_,f_] (by kernel_rfl) rfl rfl ⟨((HB.out.cell (World.block_lt_of_cell? w _ hw534_0)).trans hw534_0), ((HB.out.cell (World.block_lt_of_cell? w _ hw534_1)).trans hw534_1)⟩ (fun hHeld => ?_); refine with_tabW laws_heldLabelS.tab4 laws_heldLabelS.bits4 (fun HT_ HW_ => ?_)
       generalize wr.drew = w9 at HB hx534_0 hx534_1 hHeld ⊢
       refine pw_ 0 12 (b_ 1 7) rfl rfl HT_.out ?_
       refine pw_ 1 13 (b_ 2 6) rfl rfl HT_.out ?_
       refine pw_ 2 14 (b_ 3 5) rfl rfl HT_.out ?_
       refine pw_ 3 15 (b_ 4 4) rfl rfl HT_.out ?_
       refine pw_ 5 17 #[t_,t_,t_,t_,f_,t_,f_,f_] rfl rfl HT_.out ?_
       refine take_ (i := 4) (N := some 16) (v := ?_) (a' := ?_) #[t_,t_,t_,t_,t_,t_,f_,f_] rfl rfl (take_ofW HT_.out HW_.out (by kernel_rfl)) (fun _ _ _ h => h) (Or.inl ⟨by rfl, ?_⟩) hHeld ?_ ?_
       rotate_left
       ·
        rintro w' ⟨s0, s1⟩
        go_simp
        with_reducible rfl
       rotate_left
       ·
        simp only [fr_]
        rfl
       refine one_ (i := 6) (N := some 18) #[t_,t_,t_,t_,t_,t_,t_,f_] rfl rfl (one_of HT_.out (by kernel_rfl)) (by decide) (fun K hK => ?_)
       refine gs_ Try.func82 #[.int .i64 x1_1] ?_
       with_reducible refine (laws_markText.calls k1 x1_1 t535 _ A5.out).mono ?_
       rintro e w10 ⟨rfl, hb⟩
       refine ⟨_, rfl, ?_⟩
       replace HB := st_ HB hb
       (try clear hb)
       (try clear hk)
       refine hK.out _ _ ⟨((HB.out.cell (World.block_lt_of_cell? w _ hw534_0)).trans hw534_0), ((HB.out.cell (World.block_lt_of_cell? w _ hw534_1)).trans hw534_1)⟩ (fun hHeld => ?_)
       clear hK K
       refine norm_ (a' := ?_) ?_ ?_
       rotate_left
       ·
        show Act.put _ (some 18) _ = _
        simp only [fr_]
        rfl
       refine pw_ 7 19 (b_ 8 0) rfl rfl HT_.out ?_
       refine done_ (done_of HT_.out (by kernel_rfl)) ?_
       try go_wp2
       replace HB := Aside0.mk (bd_ HB.out)
       have p536 : 0 ≤ (x5_1 : Int) := of_decide_eq_true (by with_reducible assumption)
       have q536 : x5_1 < (l0.length : Int) := of_decide_eq_true (by with_reducible assumption)
       obtain ⟨ad536, e536, hx536_0, hx536_1⟩ := at_T88 HR0.out x5_1 p536 q536
       have hw536_1 := hx536_1
       have hw536_0 := hx536_0
       obtain rfl : ad534 = ad536 := (by injection e536)
       replace hx536_0 := cl_ HB.out hx536_0
       replace hx536_1 := cl_ HB.out hx536_1
       replace p536 := eq_true p536
       replace q536 := eq_true q536
       refine start_ (n := 8) (S := fun w' => w'.cell? (ad534.add ((x5_1).toNat * 2)) = some (.string ((rd_T88 l0 x5_1).f0)) ∧ w'.cell? ⟨(ad534.add ((x5_1).toNat * 2)).block, (ad534.add ((x5_1).toNat * 2)).off + 1, none⟩ = some (.string ((rd_T88 l0 x5_1).f1))) (ds := []) #[f_,f_,f_,f_,f_,f_,f_,f_] (by kernel_rfl) rfl rfl ⟨((HB.out.cell (World.block_lt_of_cell? w _ hw536_0)).trans hw536_0), ((HB.out.cell (World.block_lt_of_cell? w _ hw536_1)).trans hw536_1)⟩ (fun hHeld => ?_); refine with_tabW laws_heldLabelS.tab7 laws_heldLabelS.bits7 (fun HT_ HW_ => ?_)
       generalize w10.drew = w11 at HB hx536_0 hx536_1 hHeld ⊢
       refine pw_ 0 22 (b_ 1 7) rfl rfl HT_.out ?_
       refine pw_ 1 23 (b_ 2 6) rfl rfl HT_.out ?_
       refine pw_ 2 24 (b_ 3 5) rfl rfl HT_.out ?_
       refine pw_ 3 25 (b_ 4 4) rfl rfl HT_.out ?_
       refine pw_ 5 27 #[t_,t_,t_,t_,f_,t_,f_,f_] rfl rfl HT_.out ?_
       refine take_ (i := 4) (N := some 26) (v := ?_) (a' := ?_) #[t_,t_,t_,t_,t_,t_,f_,f_] rfl rfl (take_ofW HT_.out HW_.out (by kernel_rfl)) (fun _ _ _ h => h) (Or.inl ⟨by rfl, ?_⟩) hHeld ?_ ?_
       rotate_left
       ·
        rintro w' ⟨s0, s1⟩
        go_simp
        with_reducible rfl
       rotate_left
       ·
        simp only [fr_]
        rfl
       refine one_ (i := 6) (N := some 28) #[t_,t_,t_,t_,t_,t_,t_,f_] rfl rfl (one_of HT_.out (by kernel_rfl)) (by decide) (fun K hK => ?_)
       refine gs_ Try.func82 #[.int .i64 (wrap64 (x1_1 + 1))] ?_
       with_reducible refine (laws_markText.calls k1 (wrap64 (x1_1 + 1)) t537 _ A7.out).mono ?_
       rintro e w12 ⟨rfl, hb⟩
       refine ⟨_, rfl, ?_⟩
       replace HB := st_ HB hb
       (try clear hb)
       (try clear hk)
       refine hK.out _ _ ⟨((HB.out.cell (World.block_lt_of_cell? w _ hw536_0)).trans hw536_0), ((HB.out.cell (World.block_lt_of_cell? w _ hw536_1)).trans hw536_1)⟩ (fun hHeld => ?_)
       clear hK K
       refine norm_ (a' := ?_) ?_ ?_
       rotate_left
       ·
        show Act.put _ (some 28) _ = _
        simp only [fr_]
        rfl
       refine pw_ 7 29 (b_ 8 0) rfl rfl HT_.out ?_
       refine done_ (done_of HT_.out (by kernel_rfl)) ?_
       try go_wp2
       go_roundg k1
       case measure => have := HK1.out; omega
       case rel => exact ⟨(wrap64 ((wrap64 (x1_1 + 1)) + 1)), (wrap64 (x5_1 + 1)), (by first | rfl | (simp; done) | (simp [*]; done)), (by first | rfl | (simp; done) | (simp [*]; done)), H', ⟨by have := HK1.out; omega⟩, ⟨by exact hs_ HB.out⟩⟩
      rw [if_neg c8] at H
      exact absurd H (by simp)
     rw [if_neg c6] at H
     exact absurd H (by simp)
    rw [if_neg c4] at H
    exact absurd H (by simp)
   rw [if_neg c3] at H
   have c3b0 : decide (x5_1 < (l0.length : Int)) = false := decide_eq_false c3
   clear c3
   obtain rfl := Option.some.inj H
   go_wp2
   go_ret
   exact an_ (by exact hs_ HB.out)
end Go.Proofs.Yticgekgojgkbgaa.Print
end
