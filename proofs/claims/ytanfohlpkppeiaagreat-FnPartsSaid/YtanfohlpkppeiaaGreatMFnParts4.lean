import Derived.Test.YtanfohlpkppeiaaGreatMFnParts1
import Derived.Test.YtanfohlpkppeiaaGreatMFnParts3
import Derived.Test.YtanfohlpkppeiaaGreatMFnParts2
section
namespace Go.Proofs.YtanfohlpkppeiaaGreat.Print
open Go.RowKit Go.Proofs.YtanfohlpkppeiaaGreatV.PrintWords Go.Proofs.YtanfohlpkppeiaaGreatV.PrintLast Go.Proofs.YtanfohlpkppeiaaGreatV.PrintMore
attribute [local go_sem] max2_int min2_int max_two min_two max_three min_three max_four min_four
set_option linter.unusedVariables false
set_option linter.unusedSimpArgs false
set_option maxHeartbeats 80000000
set_option maxRecDepth 100000
mutual
def impl_SamePart.j0 : Nat → Bool → Int → Int → List (S80) → Int → Int → List (S80) → Option (Bool)
 | 0, _, _, _, _, _, _, _ => none
 | k + 1, g, b, c, a, d, e, f => if g = true then (some false) else (impl_SamePart.l0 k (a.length : Int) 0 b c a d e f)
def impl_SamePart.l0 : Nat → Int → Int → Int → Int → List (S80) → Int → Int → List (S80) → Option (Bool)
 | 0, _, _, _, _, _, _, _, _ => none
 | k + 1, j, c, d, e, a, g, h, b => if c < j then (if 0 ≤ c then (if c < (a.length : Int) then (if c < (b.length : Int) then ((impl_SameChain.f k ((rd_T80 a c).f0) ((rd_T80 a c).f1) ((rd_T80 b c).f0) ((rd_T80 b c).f1)).bind fun i => (if i = true then (impl_SamePart.l0 k j (wrap64 (c + 1)) d e a g h b) else (some false))) else (none)) else (none)) else (none)) else (some true)
end
def impl_SamePart.f (k : Nat) (a : Int) (b : Int) (c : List (S80)) (d : Int) (e : Int) (f : List (S80)) : Option (Bool) := if a = d then (if b = e then (impl_SamePart.j0 k ((c.length : Int) != (f.length : Int)) a b c d e f) else (impl_SamePart.j0 k true a b c d e f)) else (impl_SamePart.j0 k true a b c d e f)
def impl_SamePart.T6 : Bool × List (List Nat × List Nat) := (true, [([], []), ([0], [0]), ([], []), ([1, 2], [1, 2]), ([3], [3]), ([], []), ([5], [5]), ([], []), ([6, 7], [6, 7]), ([8], [8]), ([4, 9], [4, 9]), ([10], [10])])
def impl_SamePart.B6 : List Nat := [0, 1, 0, 7, 15, 0, 32, 0, 224, 480, 1023, 2047]
theorem impl_SamePart.tab6 : rtab .any (opsOf Tryz.f18 6) = impl_SamePart.T6 := by kernel_rfl
theorem impl_SamePart.bits6 : waitsOk impl_SamePart.T6.2 impl_SamePart.B6 = true := by kernel_rfl
theorem impl_SamePart.calls (k : Nat) (A : Int) (B : Int) (da : Option Addr) (aa : Nat) (i : List (S80)) (D : Int) (E : Int) (ea : Option Addr) (ba : Nat) (j : List (S80)) (r : Bool) (w : World) (ja : Kd.C k80 w da i.length i) (ka : i.length ≤ aa) (la : Kd.C k80 w ea j.length j) (ma : j.length ≤ ba) (h : impl_SamePart.f k A B i D E j = some r) :
  Calls Tryz.prog 18 #[.agg #[.int .i64 A, .int .i64 B, .slice da i.length aa], .agg #[.int .i64 D, .int .i64 E, .slice ea j.length ba]] w fun e w' => e = .returned (.bool r) ∧ Below w.heap.size w w' := by
 have hu26 := Tryz.underlying26
 have hu80 := Tryz.underlying80
 have na := M_ ja
 have Ea := M_ ka
 clear ja ka
 have oa := M_ la
 have Fa := M_ ma
 clear la ma
 have v := M_ (Below.refl w.heap.size w)
 unfold impl_SamePart.f at h
 have H := h; clear h
 have ra := M_ H
 clear H
 go_enter Tryz.func18, Tryz.ntmps18
 go_upto_region 1 with (first | ((with_reducible refine gd_ 2 rfl ?_); refine bV_ 2 #[.int .i64 A, .int .i64 B, .slice da i.length aa] 26 ?_; intro y hg w4 b hb; have Ca := gq_ hg v; replace v := st_ v hb; clear hb hg) | ((with_reducible refine gd_ 3 rfl ?_); refine bV_ 3 #[.int .i64 D, .int .i64 E, .slice ea j.length ba] 26 ?_; intro z hg w5 c hb; have Da := gq_ hg v; replace v := st_ v hb; obtain ⟨x, qa, b⟩ := nb_ b hg hb; clear hb hg))
 (try simp only [Act.put, List.setIfInBounds_toArray, List.set_cons_zero, List.set_cons_succ])
 go_cut [26] (fun Ga wc => ∃ (kq : Nat) (ga : Bool), Ga = .bool ga ∧ Aside0 (impl_SamePart.j0 kq ga A B i D E j = some r) ∧ Aside0 (kq ≤ k) ∧ Aside0 (wc.heap[y]? = some (.cells #[.int .i64 A, .int .i64 B, (.slice da i.length aa)] 26 (0, 0))) ∧ Aside0 (wc.heap[z]? = some (.cells #[.int .i64 D, .int .i64 E, (.slice ea j.length ba)] 26 (0, 0))) ∧ Aside0 (Below w.heap.size w wc))
 case first =>
  have H := ra.1
  clear ra
  replace H := ie_ H; rcases H with ⟨c6, H⟩ | ⟨c6, H⟩
  ·
   have fa : (A == D) = true := beq_iff_eq.mpr c6
   have wa : (A != D) = false := bne_eq_false_iff_eq.mpr c6
   clear c6
   (first | rw [fa] | (simp only [i64_w, i32_w]; rw [fa]) | skip)
   replace H := ie_ H; rcases H with ⟨c7, H⟩ | ⟨c7, H⟩
   ·
    have xa : (B == E) = true := beq_iff_eq.mpr c7
    have ya : (B != E) = false := bne_eq_false_iff_eq.mpr c7
    clear c7
    have H' := M_ H
    clear H
    have Cb := n2_ x
    obtain ⟨Db, Eb, Fb, Gb, Hb, Ib⟩ := bc3_ b.1
    obtain ⟨Ha, Ia, Ja, Ka, La, Ma⟩ := bc3_ c.1
    go_wp2
    go_meet
    case rel => exact ⟨_, (((i.length : Int) != (j.length : Int))), rs_, H', ⟨by first | omega | exact Nat.le_refl _⟩, ⟨bq_ b.1⟩, ⟨bq_ c.1⟩, ⟨hs_ v.1⟩⟩
   have xa : (B == E) = false := beq_eq_false_iff_ne.mpr c7
   have ya : (B != E) = true := bne_iff_ne.mpr c7
   have H' := M_ H
   clear H
   have Na := n2_ x
   obtain ⟨Oa, Pa, Qa, Ra, Sa, Ta⟩ := bc3_ b.1
   obtain ⟨Ua, Va, Wa, Xa, Ya, Za⟩ := bc3_ c.1
   go_wp2
   go_meet
   case rel => exact ⟨_, (true), rs_, H', ⟨by first | omega | exact Nat.le_refl _⟩, ⟨bq_ b.1⟩, ⟨bq_ c.1⟩, ⟨hs_ v.1⟩⟩
  have fa : (A == D) = false := beq_eq_false_iff_ne.mpr c6
  have wa : (A != D) = true := bne_iff_ne.mpr c6
  (first | rw [fa] | (simp only [i64_w, i32_w]; rw [fa]) | skip)
  have H' := M_ H
  clear H
  have ab := n2_ x
  obtain ⟨bb, cb, db, eb, fb, gb⟩ := bc3_ b.1
  obtain ⟨ib, jb, kb, lb, mb, nb⟩ := bc3_ c.1
  go_wp2
  go_meet
  case rel => exact ⟨_, (true), rs_, H', ⟨by first | omega | exact Nat.le_refl _⟩, ⟨bq_ b.1⟩, ⟨bq_ c.1⟩, ⟨hs_ v.1⟩⟩
 case rest =>
  clear ra
  obtain ⟨kq, ga, rfl, HA, HJ2, b, c, v⟩ := hcut
  cases kq with
  | zero => exact absurd HA.1 (by simp [impl_SamePart.j0])
  | succ za =>
   have H := HA.1
   clear HA
   simp only [impl_SamePart.j0] at H
   replace H := ib_ H; rcases H with ⟨rfl, H⟩ | ⟨rfl, H⟩
   ·
    obtain rfl := Option.some.inj H
    go_wp2
    go_ret
    exact an_ (hs_ v.1)
   have H' := M_ H
   clear H
   have ob := n2_ x
   obtain ⟨pb, qb, rb, sb, tb, ub⟩ := bc3_ b.1
   go_wp2
   go_loopg [30] za (fun kq vb w' => ∃ (a : Int), vb = .int .i64 a ∧ Aside0 (impl_SamePart.l0 kq (i.length : Int) a A B i D E j = some r) ∧ Aside0 (kq ≤ za) ∧ Aside0 (w'.heap[y]? = some (.cells #[.int .i64 A, .int .i64 B, (.slice da i.length aa)] 26 (0, 0))) ∧ Aside0 (w'.heap[z]? = some (.cells #[.int .i64 D, .int .i64 E, (.slice ea j.length ba)] 26 (0, 0))) ∧ Aside0 (Below w.heap.size w w'))
   case atStart => exact ⟨(0), rs_, H', ⟨Nat.le_refl _⟩, ⟨bq_ b.1⟩, ⟨bq_ c.1⟩, ⟨hs_ v.1⟩⟩
   case round =>
    clear H'
    obtain ⟨a, rfl, HA, Aa, b, c, v⟩ := hrel
    cases gk with
    | zero => exact absurd HA.1 (by simp [impl_SamePart.l0])
    | succ k2 =>
     have H := HA.1
     clear HA
     simp only [impl_SamePart.l0] at H
     replace H := ie_ H; rcases H with ⟨pa, H⟩ | ⟨pa, H⟩
     ·
      have ta := decide_eq_true pa
      clear pa
      replace H := i2_ H; obtain ⟨xb, yb, H⟩ := H
      replace H := id_ H; obtain ⟨zb, H⟩ := H
      replace H := bi_ H; obtain ⟨Ab, Ba, H⟩ := H
      replace H := ib_ H; rcases H with ⟨rfl, H⟩ | ⟨rfl, H⟩
      ·
       have H' := M_ H
       clear H
       try go_wp2
       obtain ⟨b, c, v⟩ := y3_ b c v
       obtain ⟨U, V⟩ : 0 ≤ (a : Int) ∧ a < (i.length : Int) := pq_
       obtain ⟨N, P, Q, ha, d, l, F, G⟩ := at_T80 na.1 a U V
       have o := l
       have p := d
       cases ha
       replace d := c2_ v d l; clear l; obtain ⟨d, l⟩ := d
       have I := M_ G
       have Y := M_ F
       clear G F
       replace U := eq_true U; replace V := eq_true V
       obtain ⟨W, X⟩ : 0 ≤ (a : Int) ∧ a < (j.length : Int) := pq_
       obtain ⟨O, R, T, ia, g, m, J, L⟩ := at_T80 oa.1 a W X
       have q := m
       have s := g
       cases ia
       replace g := c2_ v g m; clear m; obtain ⟨g, m⟩ := g
       have M := M_ L
       have Z := M_ J
       clear L J
       replace W := eq_true W; replace X := eq_true X
       refine start_ (n := 12) (S := fun w' => c_ w' y 0 (.int .i64 A) ∧ c_ w' y 1 (.int .i64 B) ∧ c_ w' y 2 (.slice (some N) i.length aa) ∧ c_ w' z 0 (.int .i64 D) ∧ c_ w' z 1 (.int .i64 E) ∧ c_ w' z 2 (.slice (some O) j.length ba) ∧ w'.cell? (N.add ((a).toNat * 2)) = some (.int .i64 ((rd_T80 i a).f0)) ∧ d_ w' (N.add ((a).toNat * 2)) 1 (.slice P ((rd_T80 i a).f1).length Q) ∧ w'.cell? (O.add ((a).toNat * 2)) = some (.int .i64 ((rd_T80 j a).f0)) ∧ d_ w' (O.add ((a).toNat * 2)) 1 (.slice R ((rd_T80 j a).f1).length T)) (ds := []) (b_ 0 12) (by kernel_rfl) rfl rfl ⟨bx_ b.1 0, bx_ b.1 1, bx_ b.1 2, bx_ c.1 0, bx_ c.1 1, bx_ c.1 2, ((v.1.cell (World.block_lt_of_cell? w _ p)).trans p), ((v.1.cell (World.block_lt_of_cell? w _ o)).trans o), ((v.1.cell (World.block_lt_of_cell? w _ s)).trans s), ((v.1.cell (World.block_lt_of_cell? w _ q)).trans q)⟩ (fun t => ?_); refine with_tabW impl_SamePart.tab6 impl_SamePart.bits6 (fun u ca => ?_)
       generalize wr.drew = Jb at b c v I M d l g m t ⊢
       refine p_ u ?_
       refine qw_ 2 (m_ 12 5) u ?_
       refine qw_ 5 (m_ 12 37) u ?_
       refine qw_ 7 (m_ 12 165) u ?_
       refine qt_ 1 (m_ 12 167) u ca t ?_
       refine qw_ 3 (m_ 12 175) u ?_
       refine qt_ 4 (m_ 12 191) u ca t ?_
       refine qt_ 6 (b_ 8 4) u ca t ?_
       refine p_ u ?_
       refine t0_ u ca t ?_
       refine o1_ 10 (b_ 11 1) u (fun K hK => ?_)
       refine gs_ Tryz.func71 #[.agg #[.int .i64 ((rd_T80 i a).f0), .slice P ((rd_T80 i a).f1).length Q], .agg #[.int .i64 ((rd_T80 j a).f0), .slice R ((rd_T80 j a).f1).length T]] ?_
       with_reducible refine (impl_SameChain.calls k2 ((rd_T80 i a).f0) _ _ ((rd_T80 i a).f1) ((rd_T80 j a).f0) _ _ ((rd_T80 j a).f1) true _ ?_ ?_ ?_ ?_ Ba.1).mono ?_
       exact cp_ ((Kd.C_below I.1 v.1))
       exact Y.1
       exact cp_ ((Kd.C_below M.1 v.1))
       exact Z.1
       rintro e Kb ⟨rfl, hb⟩
       refine ⟨_, rfl, ?_⟩
       obtain ⟨b, c, v⟩ := u3_ hb b c v
       (try clear hb)
       refine ho_ hK ⟨bx_ b.1 0, bx_ b.1 1, bx_ b.1 2, bx_ c.1 0, bx_ c.1 1, bx_ c.1 2, ((v.1.cell (World.block_lt_of_cell? w _ p)).trans p), ((v.1.cell (World.block_lt_of_cell? w _ o)).trans o), ((v.1.cell (World.block_lt_of_cell? w _ s)).trans s), ((v.1.cell (World.block_lt_of_cell? w _ q)).trans q)⟩ (fun t => ?_)
       refine p_ u ?_
       refine done_ (done_of u.1 (by kernel_rfl)) ?_
       try go_wp2
       go_roundg k2
       case measure => have := HJ2.1; have := Aa.1; omega
       case rel => exact ⟨(wrap64 (a + 1)), rs_, H', ⟨by have := HJ2.1; have := Aa.1; omega⟩, ⟨bq_ b.1⟩, ⟨bq_ c.1⟩, ⟨hs_ v.1⟩⟩
      obtain rfl := Option.some.inj H
      try go_wp2
      obtain ⟨b, c, v⟩ := y3_ b c v
      obtain ⟨U, V⟩ : 0 ≤ (a : Int) ∧ a < (i.length : Int) := pq_
      obtain ⟨N, P, Q, ha, d, l, F, G⟩ := at_T80 na.1 a U V
      have o := l
      have p := d
      cases ha
      replace d := c2_ v d l; clear l; obtain ⟨d, l⟩ := d
      have I := M_ G
      have Y := M_ F
      clear G F
      replace U := eq_true U; replace V := eq_true V
      obtain ⟨W, X⟩ : 0 ≤ (a : Int) ∧ a < (j.length : Int) := pq_
      obtain ⟨O, R, T, ia, g, m, J, L⟩ := at_T80 oa.1 a W X
      have q := m
      have s := g
      cases ia
      replace g := c2_ v g m; clear m; obtain ⟨g, m⟩ := g
      have M := M_ L
      have Z := M_ J
      clear L J
      replace W := eq_true W; replace X := eq_true X
      refine start_ (n := 12) (S := fun w' => c_ w' y 0 (.int .i64 A) ∧ c_ w' y 1 (.int .i64 B) ∧ c_ w' y 2 (.slice (some N) i.length aa) ∧ c_ w' z 0 (.int .i64 D) ∧ c_ w' z 1 (.int .i64 E) ∧ c_ w' z 2 (.slice (some O) j.length ba) ∧ w'.cell? (N.add ((a).toNat * 2)) = some (.int .i64 ((rd_T80 i a).f0)) ∧ d_ w' (N.add ((a).toNat * 2)) 1 (.slice P ((rd_T80 i a).f1).length Q) ∧ w'.cell? (O.add ((a).toNat * 2)) = some (.int .i64 ((rd_T80 j a).f0)) ∧ d_ w' (O.add ((a).toNat * 2)) 1 (.slice R ((rd_T80 j a).f1).length T)) (ds := []) (b_ 0 12) (by kernel_rfl) rfl rfl ⟨bx_ b.1 0, bx_ b.1 1, bx_ b.1 2, bx_ c.1 0, bx_ c.1 1, bx_ c.1 2, ((v.1.cell (World.block_lt_of_cell? w _ p)).trans p), ((v.1.cell (World.block_lt_of_cell? w _ o)).trans o), ((v.1.cell (World.block_lt_of_cell? w _ s)).trans s), ((v.1.cell (World.block_lt_of_cell? w _ q)).trans q)⟩ (fun t => ?_); refine with_tabW impl_SamePart.tab6 impl_SamePart.bits6 (fun u ca => ?_)
      generalize wr.drew = Lb at b c v I M d l g m t ⊢
      refine p_ u ?_
      refine qw_ 2 (m_ 12 5) u ?_
      refine qw_ 5 (m_ 12 37) u ?_
      refine qw_ 7 (m_ 12 165) u ?_
      refine qt_ 1 (m_ 12 167) u ca t ?_
      refine qw_ 3 (m_ 12 175) u ?_
      refine qt_ 4 (m_ 12 191) u ca t ?_
      refine qt_ 6 (b_ 8 4) u ca t ?_
      refine p_ u ?_
      refine t0_ u ca t ?_
      refine o1_ 10 (b_ 11 1) u (fun K hK => ?_)
      refine gs_ Tryz.func71 #[.agg #[.int .i64 ((rd_T80 i a).f0), .slice P ((rd_T80 i a).f1).length Q], .agg #[.int .i64 ((rd_T80 j a).f0), .slice R ((rd_T80 j a).f1).length T]] ?_
      with_reducible refine (impl_SameChain.calls k2 ((rd_T80 i a).f0) _ _ ((rd_T80 i a).f1) ((rd_T80 j a).f0) _ _ ((rd_T80 j a).f1) false _ ?_ ?_ ?_ ?_ Ba.1).mono ?_
      exact cp_ ((Kd.C_below I.1 v.1))
      exact Y.1
      exact cp_ ((Kd.C_below M.1 v.1))
      exact Z.1
      rintro e Mb ⟨rfl, hb⟩
      refine ⟨_, rfl, ?_⟩
      obtain ⟨b, c, v⟩ := u3_ hb b c v
      (try clear hb)
      refine ho_ hK ⟨bx_ b.1 0, bx_ b.1 1, bx_ b.1 2, bx_ c.1 0, bx_ c.1 1, bx_ c.1 2, ((v.1.cell (World.block_lt_of_cell? w _ p)).trans p), ((v.1.cell (World.block_lt_of_cell? w _ o)).trans o), ((v.1.cell (World.block_lt_of_cell? w _ s)).trans s), ((v.1.cell (World.block_lt_of_cell? w _ q)).trans q)⟩ (fun t => ?_)
      refine p_ u ?_
      refine done_ (done_of u.1 (by kernel_rfl)) ?_
      try go_wp2
      go_ret
      exact an_ (hs_ v.1)
     have ta : decide (a < (i.length : Int)) = false := decide_eq_false pa
     clear pa
     obtain rfl := Option.some.inj H
     go_wp2
     go_ret
     exact an_ (hs_ v.1)
def laws_sameList.l0 : Nat → List (S29) → List (S29) → Int → Option (Bool)
 | 0, _, _, _ => none
 | k + 1, c, d, a => if a < (c.length : Int) then (if 0 ≤ a then (if a < (d.length : Int) then ((impl_SameAlarm.f k ((rd_T29 c a).f0) ((rd_T29 c a).f1) ((rd_T29 c a).f2) ((rd_T29 c a).f3) ((rd_T29 d a).f0) ((rd_T29 d a).f1) ((rd_T29 d a).f2) ((rd_T29 d a).f3)).bind fun b => (if b = true then (laws_sameList.l0 k c d (wrap64 (a + 1))) else (some false))) else (none)) else (none)) else (some true)
def laws_sameList.f (k : Nat) (l0 : List (S29)) (a : List (S29)) : Option (Bool) := if (l0.length : Int) = (a.length : Int) then (laws_sameList.l0 k l0 a 0) else (some false)
def laws_sameList.T6 : Bool × List (List Nat × List Nat) := (true, [([], []), ([], []), ([0, 1], [0, 1]), ([2], [2]), ([], []), ([], []), ([4, 5], [4, 5]), ([6], [6]), ([3, 7], [3, 7]), ([8], [8])])
def laws_sameList.B6 : List Nat := [0, 0, 3, 7, 0, 0, 48, 112, 255, 511]
theorem laws_sameList.tab6 : rtab .any (opsOf Tryz.f20 6) = laws_sameList.T6 := by kernel_rfl
theorem laws_sameList.bits6 : waitsOk laws_sameList.T6.2 laws_sameList.B6 = true := by kernel_rfl
theorem laws_sameList.calls (k : Nat) (A0 : Option Addr) (c0 : Nat) (l0 : List (S29)) (A1 : Option Addr) (c1 : Nat) (M : List (S29)) (r : Bool) (w : World) (ca : Kd.C k29 w A0 l0.length l0) (da : l0.length ≤ c0) (ea : Kd.C k29 w A1 M.length M) (fa : M.length ≤ c1) (h : laws_sameList.f k l0 M = some r) :
  Calls Tryz.prog 20 #[.slice A0 l0.length c0, .slice A1 M.length c1] w fun e w' => e = .returned (.bool r) ∧ Below w.heap.size w w' := by
 have hu29 := Tryz.underlying29
 have ga := M_ ca
 have za := M_ da
 clear ca da
 have ha := M_ ea
 have Aa := M_ fa
 clear ea fa
 have y := M_ (Below.refl w.heap.size w)
 unfold laws_sameList.f at h
 have H := h; clear h
 replace H := ie_ H; rcases H with ⟨c3, H⟩ | ⟨c3, H⟩
 ·
  have ia : ((l0.length : Int) == (M.length : Int)) = true := beq_iff_eq.mpr c3
  have ja : ((l0.length : Int) != (M.length : Int)) = false := bne_eq_false_iff_eq.mpr c3
  have ka : (l0.length == M.length) = true := by first | simpa using c3 | (simp at c3 ⊢; omega)
  clear c3
  have H' := M_ H
  clear H
  go_enter Tryz.func20, Tryz.ntmps20
  go_wp2
  go_loopg [5] k (fun kq v5 w' => ∃ (a : Int), v5 = .int .i64 a ∧ Aside0 (laws_sameList.l0 kq l0 M a = some r) ∧ Aside0 (kq ≤ k) ∧ Aside0 (Below w.heap.size w w'))
  case atStart => exact ⟨(0), rs_, H', ⟨Nat.le_refl _⟩, ⟨hs_ y.1⟩⟩
  case round =>
   clear H'
   obtain ⟨a, rfl, HA, la, y⟩ := hrel
   cases gk with
   | zero => exact absurd HA.1 (by simp [laws_sameList.l0])
   | succ k1 =>
    have H := HA.1
    clear HA
    simp only [laws_sameList.l0] at H
    replace H := ie_ H; rcases H with ⟨c4, H⟩ | ⟨c4, H⟩
    ·
     have na := decide_eq_true c4
     clear c4
     replace H := i2_ H; obtain ⟨wa, xa, H⟩ := H
     replace H := bi_ H; obtain ⟨qa, A7, H⟩ := H
     replace H := ib_ H; rcases H with ⟨rfl, H⟩ | ⟨rfl, H⟩
     ·
      have H' := M_ H
      clear H
      try go_wp2
      replace y := db_ y
      obtain ⟨R, T⟩ : 0 ≤ (a : Int) ∧ a < (l0.length : Int) := pq_
      obtain ⟨z, N, O, Y, b, d, g, i, B, D⟩ := at_T29 ga.1 a R T
      have o := i
      have p := g
      have q := d
      have s := b
      cases Y
      replace b := c4_ y b d g i; clear d g i; obtain ⟨b, d, g, i⟩ := b
      have E := M_ D
      have W := M_ B
      clear D B
      replace R := eq_true R; replace T := eq_true T
      obtain ⟨U, V⟩ : 0 ≤ (a : Int) ∧ a < (M.length : Int) := pq_
      obtain ⟨A, P, Q, Z, c, j, l, m, F, G⟩ := at_T29 ha.1 a U V
      have t := m
      have u := l
      have v := j
      have x := c
      cases Z
      replace c := c4_ y c j l m; clear j l m; obtain ⟨c, j, l, m⟩ := c
      have I := M_ G
      have X := M_ F
      clear G F
      replace U := eq_true U; replace V := eq_true V
      refine start_ (n := 10) (S := fun w' => w'.cell? (z.add ((a).toNat * 4)) = some (.slice N ((rd_T29 l0 a).f0).length O) ∧ d_ w' (z.add ((a).toNat * 4)) 1 (.int .i64 ((rd_T29 l0 a).f1)) ∧ d_ w' (z.add ((a).toNat * 4)) 2 (.int .i64 ((rd_T29 l0 a).f2)) ∧ d_ w' (z.add ((a).toNat * 4)) 3 (.string ((rd_T29 l0 a).f3)) ∧ w'.cell? (A.add ((a).toNat * 4)) = some (.slice P ((rd_T29 M a).f0).length Q) ∧ d_ w' (A.add ((a).toNat * 4)) 1 (.int .i64 ((rd_T29 M a).f1)) ∧ d_ w' (A.add ((a).toNat * 4)) 2 (.int .i64 ((rd_T29 M a).f2)) ∧ d_ w' (A.add ((a).toNat * 4)) 3 (.string ((rd_T29 M a).f3))) (ds := []) (b_ 0 10) (by kernel_rfl) rfl rfl ⟨((y.1.cell (World.block_lt_of_cell? w _ s)).trans s), ((y.1.cell (World.block_lt_of_cell? w _ q)).trans q), ((y.1.cell (World.block_lt_of_cell? w _ p)).trans p), ((y.1.cell (World.block_lt_of_cell? w _ o)).trans o), ((y.1.cell (World.block_lt_of_cell? w _ x)).trans x), ((y.1.cell (World.block_lt_of_cell? w _ v)).trans v), ((y.1.cell (World.block_lt_of_cell? w _ u)).trans u), ((y.1.cell (World.block_lt_of_cell? w _ t)).trans t)⟩ (fun J => ?_); refine with_tabW laws_sameList.tab6 laws_sameList.bits6 (fun L aa => ?_)
      generalize wr.drew = w9 at y E I b d g i c j l m J ⊢
      iterate 3 refine p_ L ?_
      refine qw_ 4 (m_ 10 23) L ?_
      refine qw_ 5 (m_ 10 55) L ?_
      refine qw_ 6 (m_ 10 119) L ?_
      refine qt_ 3 (b_ 7 3) L aa J ?_
      refine t0_ L aa J ?_
      refine o1_ 8 (b_ 9 1) L (fun K hK => ?_)
      refine gs_ Tryz.func19 #[.agg #[.slice N ((rd_T29 l0 a).f0).length O, .int .i64 ((rd_T29 l0 a).f1), .int .i64 ((rd_T29 l0 a).f2), .string ((rd_T29 l0 a).f3)], .agg #[.slice P ((rd_T29 M a).f0).length Q, .int .i64 ((rd_T29 M a).f1), .int .i64 ((rd_T29 M a).f2), .string ((rd_T29 M a).f3)]] ?_
      with_reducible refine (impl_SameAlarm.calls k1 _ _ ((rd_T29 l0 a).f0) ((rd_T29 l0 a).f1) ((rd_T29 l0 a).f2) ((rd_T29 l0 a).f3) _ _ ((rd_T29 M a).f0) ((rd_T29 M a).f1) ((rd_T29 M a).f2) ((rd_T29 M a).f3) true _ ?_ ?_ ?_ ?_ A7.1).mono ?_
      exact cp_ ((Kd.C_below E.1 y.1))
      exact W.1
      exact cp_ ((Kd.C_below I.1 y.1))
      exact X.1
      rintro e Ca ⟨rfl, hb⟩
      refine ⟨_, rfl, ?_⟩
      replace y := st_ y hb
      (try clear hb)
      refine ho_ hK ⟨((y.1.cell (World.block_lt_of_cell? w _ s)).trans s), ((y.1.cell (World.block_lt_of_cell? w _ q)).trans q), ((y.1.cell (World.block_lt_of_cell? w _ p)).trans p), ((y.1.cell (World.block_lt_of_cell? w _ o)).trans o), ((y.1.cell (World.block_lt_of_cell? w _ x)).trans x), ((y.1.cell (World.block_lt_of_cell? w _ v)).trans v), ((y.1.cell (World.block_lt_of_cell? w _ u)).trans u), ((y.1.cell (World.block_lt_of_cell? w _ t)).trans t)⟩ (fun J => ?_)
      refine p_ L ?_
      refine done_ (done_of L.1 (by kernel_rfl)) ?_
      try go_wp2
      go_roundg k1
      case measure => have := la.1; omega
      case rel => exact ⟨(wrap64 (a + 1)), rs_, H', ⟨by have := la.1; omega⟩, ⟨hs_ y.1⟩⟩
     obtain rfl := Option.some.inj H
     try go_wp2
     replace y := db_ y
     obtain ⟨R, T⟩ : 0 ≤ (a : Int) ∧ a < (l0.length : Int) := pq_
     obtain ⟨z, N, O, Y, b, d, g, i, B, D⟩ := at_T29 ga.1 a R T
     have o := i
     have p := g
     have q := d
     have s := b
     cases Y
     replace b := c4_ y b d g i; clear d g i; obtain ⟨b, d, g, i⟩ := b
     have E := M_ D
     have W := M_ B
     clear D B
     replace R := eq_true R; replace T := eq_true T
     obtain ⟨U, V⟩ : 0 ≤ (a : Int) ∧ a < (M.length : Int) := pq_
     obtain ⟨A, P, Q, Z, c, j, l, m, F, G⟩ := at_T29 ha.1 a U V
     have t := m
     have u := l
     have v := j
     have x := c
     cases Z
     replace c := c4_ y c j l m; clear j l m; obtain ⟨c, j, l, m⟩ := c
     have I := M_ G
     have X := M_ F
     clear G F
     replace U := eq_true U; replace V := eq_true V
     refine start_ (n := 10) (S := fun w' => w'.cell? (z.add ((a).toNat * 4)) = some (.slice N ((rd_T29 l0 a).f0).length O) ∧ d_ w' (z.add ((a).toNat * 4)) 1 (.int .i64 ((rd_T29 l0 a).f1)) ∧ d_ w' (z.add ((a).toNat * 4)) 2 (.int .i64 ((rd_T29 l0 a).f2)) ∧ d_ w' (z.add ((a).toNat * 4)) 3 (.string ((rd_T29 l0 a).f3)) ∧ w'.cell? (A.add ((a).toNat * 4)) = some (.slice P ((rd_T29 M a).f0).length Q) ∧ d_ w' (A.add ((a).toNat * 4)) 1 (.int .i64 ((rd_T29 M a).f1)) ∧ d_ w' (A.add ((a).toNat * 4)) 2 (.int .i64 ((rd_T29 M a).f2)) ∧ d_ w' (A.add ((a).toNat * 4)) 3 (.string ((rd_T29 M a).f3))) (ds := []) (b_ 0 10) (by kernel_rfl) rfl rfl ⟨((y.1.cell (World.block_lt_of_cell? w _ s)).trans s), ((y.1.cell (World.block_lt_of_cell? w _ q)).trans q), ((y.1.cell (World.block_lt_of_cell? w _ p)).trans p), ((y.1.cell (World.block_lt_of_cell? w _ o)).trans o), ((y.1.cell (World.block_lt_of_cell? w _ x)).trans x), ((y.1.cell (World.block_lt_of_cell? w _ v)).trans v), ((y.1.cell (World.block_lt_of_cell? w _ u)).trans u), ((y.1.cell (World.block_lt_of_cell? w _ t)).trans t)⟩ (fun J => ?_); refine with_tabW laws_sameList.tab6 laws_sameList.bits6 (fun L aa => ?_)
     generalize wr.drew = Da at y E I b d g i c j l m J ⊢
     iterate 3 refine p_ L ?_
     refine qw_ 4 (m_ 10 23) L ?_
     refine qw_ 5 (m_ 10 55) L ?_
     refine qw_ 6 (m_ 10 119) L ?_
     refine qt_ 3 (b_ 7 3) L aa J ?_
     refine t0_ L aa J ?_
     refine o1_ 8 (b_ 9 1) L (fun K hK => ?_)
     refine gs_ Tryz.func19 #[.agg #[.slice N ((rd_T29 l0 a).f0).length O, .int .i64 ((rd_T29 l0 a).f1), .int .i64 ((rd_T29 l0 a).f2), .string ((rd_T29 l0 a).f3)], .agg #[.slice P ((rd_T29 M a).f0).length Q, .int .i64 ((rd_T29 M a).f1), .int .i64 ((rd_T29 M a).f2), .string ((rd_T29 M a).f3)]] ?_
     with_reducible refine (impl_SameAlarm.calls k1 _ _ ((rd_T29 l0 a).f0) ((rd_T29 l0 a).f1) ((rd_T29 l0 a).f2) ((rd_T29 l0 a).f3) _ _ ((rd_T29 M a).f0) ((rd_T29 M a).f1) ((rd_T29 M a).f2) ((rd_T29 M a).f3) false _ ?_ ?_ ?_ ?_ A7.1).mono ?_
     exact cp_ ((Kd.C_below E.1 y.1))
     exact W.1
     exact cp_ ((Kd.C_below I.1 y.1))
     exact X.1
     rintro e Ea ⟨rfl, hb⟩
     refine ⟨_, rfl, ?_⟩
     replace y := st_ y hb
     (try clear hb)
     refine ho_ hK ⟨((y.1.cell (World.block_lt_of_cell? w _ s)).trans s), ((y.1.cell (World.block_lt_of_cell? w _ q)).trans q), ((y.1.cell (World.block_lt_of_cell? w _ p)).trans p), ((y.1.cell (World.block_lt_of_cell? w _ o)).trans o), ((y.1.cell (World.block_lt_of_cell? w _ x)).trans x), ((y.1.cell (World.block_lt_of_cell? w _ v)).trans v), ((y.1.cell (World.block_lt_of_cell? w _ u)).trans u), ((y.1.cell (World.block_lt_of_cell? w _ t)).trans t)⟩ (fun J => ?_)
     refine p_ L ?_
     refine done_ (done_of L.1 (by kernel_rfl)) ?_
     try go_wp2
     go_ret
     exact an_ (hs_ y.1)
    have na : decide (a < (l0.length : Int)) = false := decide_eq_false c4
    clear c4
    obtain rfl := Option.some.inj H
    go_wp2
    go_ret
    exact an_ (hs_ y.1)
 have ia : ((l0.length : Int) == (M.length : Int)) = false := beq_eq_false_iff_ne.mpr c3
 have ja : ((l0.length : Int) != (M.length : Int)) = true := bne_iff_ne.mpr c3
 have ka : (l0.length == M.length) = false := by first | simpa using c3 | (simp at c3 ⊢; omega)
 obtain rfl := Option.some.inj H
 go_enter Tryz.func20, Tryz.ntmps20
 go_wp2
 go_ret
 exact an_ (hs_ y.1)
def impl_AlarmOk.f (k : Nat) (a : List (S99)) (b : Int) (h : Int) (i : ByteArray) : Option (Bool) := if (a.length : Int) > 0 then ((impl_SetOk.f k a).bind fun c => (if c = true then ((impl_in.f b 0 99999).bind fun d => (if d = true then ((impl_in.f h b 99999).bind fun e => (if e = true then ((impl_PlainOk.f k i).bind fun g => (some g)) else (some false))) else (some false))) else (some false))) else (some false)
theorem impl_AlarmOk.calls (k : Nat) (j : Option Addr) (l : Nat) (a : List (S99)) (c : Int) (d : Int) (g : ByteArray) (r : Bool) (w : World) (m : Kd.C k99 w j a.length a) (n : a.length ≤ l) (h : impl_AlarmOk.f k a c d g = some r) :
  Calls Tryz.prog 106 #[.agg #[.slice j a.length l, .int .i64 c, .int .i64 d, .string g]] w fun e w' => e = .returned (.bool r) ∧ Below w.heap.size w w' := by
 have hu29 := Tryz.underlying29
 have o := M_ m
 have p := M_ n
 clear m n
 have i := M_ (Below.refl w.heap.size w)
 unfold impl_AlarmOk.f at h
 have H := h; clear h
 have AHz_ := M_ H
 clear H
 go_enter Tryz.func106, Tryz.ntmps106
 go_wp2_with (first | (((with_reducible refine gd_ 1 rfl ?_); refine bV_ 1 #[.slice j a.length l, .int .i64 c, .int .i64 d, .string g] 29 ?_; intro x hg W b hb; have y := gq_ hg i; replace i := st_ i hb; clear hb hg; obtain ⟨z, A, B, D, E, F, G, I⟩ := bc4_ b.1); refine Aside0.out ?_))
 have H := AHz_.1
 clear AHz_
 replace H := ie_ H; rcases H with ⟨t, H⟩ | ⟨t, H⟩
 ·
  have u : decide (0 < (a.length : Int)) = true := decide_eq_true t
  have v : decide (0 < a.length) = true := decide_eq_true (by omega)
  clear t
  replace H := bi_ H; obtain ⟨J, U, H⟩ := H
  replace H := ib_ H; rcases H with ⟨rfl, H⟩ | ⟨rfl, H⟩
  ·
   replace H := bi_ H; obtain ⟨q, X, H⟩ := H
   have AHz_ := M_ H
   clear H
   refine ⟨?_⟩
   go_wp2_with (first | (go_at_call 116; (with_reducible refine (impl_SetOk.calls k _ _ a true _ ?_ ?_ U.1).mono ?_); exact cp_ ((Kd.C_below o.1 i.1)); exact p.1; rintro e Y ⟨rfl, hb⟩; obtain ⟨b, i⟩ := u2_ hb b i; (try clear hb); obtain ⟨K, L, M, N, O, P, Q, R⟩ := bc4_ b.1) | ((go_at_call 75; (with_reducible refine (impl_in.calls c 0 99999 q _ X.1).mono ?_); rintro e w' ⟨rfl, ⟨S, rfl⟩⟩); refine Aside0.out ?_))
   have H := AHz_.1
   clear AHz_
   replace H := ib_ H; rcases H with ⟨rfl, H⟩ | ⟨rfl, H⟩
   ·
    replace H := bi_ H; obtain ⟨T, V, H⟩ := H
    replace H := ib_ H; rcases H with ⟨rfl, H⟩ | ⟨rfl, H⟩
    ·
     replace H := bi_ H; obtain ⟨s, Z, H⟩ := H
     obtain rfl := Option.some.inj H
     refine ⟨?_⟩
     go_wp2_with (first | (go_at_call 75; (with_reducible refine (impl_in.calls d c 99999 true _ V.1).mono ?_); rintro e w' ⟨rfl, ⟨S, rfl⟩⟩) | (go_at_call 121; (with_reducible refine (impl_PlainOk.calls k g s _ Z.1).mono ?_); rintro e w' ⟨rfl, ⟨S, rfl⟩⟩))
     go_ret
     exact an_ (hs_ i.1)
    obtain rfl := Option.some.inj H
    refine ⟨?_⟩
    go_wp2_with (first | (go_at_call 75; (with_reducible refine (impl_in.calls d c 99999 false _ V.1).mono ?_); rintro e w' ⟨rfl, ⟨S, rfl⟩⟩))
    go_ret
    exact an_ (hs_ i.1)
   obtain rfl := Option.some.inj H
   refine ⟨?_⟩
   go_wp2
   go_ret
   exact an_ (hs_ i.1)
  obtain rfl := Option.some.inj H
  refine ⟨?_⟩
  go_wp2_with (first | (go_at_call 116; (with_reducible refine (impl_SetOk.calls k _ _ a false _ ?_ ?_ U.1).mono ?_); exact cp_ ((Kd.C_below o.1 i.1)); exact p.1; rintro e aa ⟨rfl, hb⟩; obtain ⟨b, i⟩ := u2_ hb b i; (try clear hb)))
  go_ret
  exact an_ (hs_ i.1)
 have u : decide (0 < (a.length : Int)) = false := decide_eq_false t
 have v : decide (0 < a.length) = false := decide_eq_false (by omega)
 clear t
 obtain rfl := Option.some.inj H
 refine ⟨?_⟩
 go_wp2
 go_ret
 exact an_ (hs_ i.1)
def impl_labelsApart.l0 : Nat → List (S29) → List (S29) → Int → Int → Option (Bool)
 | 0, _, _, _, _ => none
 | k + 1, c, d, e, a => if a < e then (if 0 ≤ a then (if a < (d.length : Int) then (if a ≤ (c.length : Int) then ((impl_labelsAt.f k (c.take (a : Int).toNat) ((rd_T29 d a).f0)).bind fun b => (if b ≥ 0 then (some false) else (impl_labelsApart.l0 k c d e (wrap64 (a + 1))))) else (none)) else (none)) else (none)) else (some true)
def impl_labelsApart.f (k : Nat) (l0 : List (S29)) : Option (Bool) := impl_labelsApart.l0 k l0 l0 (l0.length : Int) 0
theorem impl_labelsApart.calls (k : Nat) (A0 : Option Addr) (G : Nat) (l0 : List (S29)) (r : Bool) (w : World) (O : Kd.C k29 w A0 l0.length l0) (Q : l0.length ≤ G) (h : impl_labelsApart.f k l0 = some r) :
  Calls Tryz.prog 107 #[.slice A0 l0.length G] w fun e w' => e = .returned (.bool r) ∧ Below w.heap.size w w' := by
 have hu29 := Tryz.underlying29
 have R := M_ O
 have Z := M_ Q
 clear O Q
 have p := M_ (Below.refl w.heap.size w)
 unfold impl_labelsApart.f at h
 have H := h; clear h
 have H' := M_ H
 clear H
 go_enter Tryz.func107, Tryz.ntmps107
 go_wp2
 go_loopg [7] k (fun kq v7 w' => ∃ (a : Int), v7 = .int .i64 a ∧ Aside0 (impl_labelsApart.l0 kq l0 l0 (l0.length : Int) a = some r) ∧ Aside0 (kq ≤ k) ∧ Aside0 (Below w.heap.size w w'))
 case atStart => exact ⟨(0), rs_, H', ⟨Nat.le_refl _⟩, ⟨hs_ p.1⟩⟩
 case round =>
  clear H'
  obtain ⟨a, rfl, HA, T, p⟩ := hrel
  cases gk with
  | zero => exact absurd HA.1 (by simp [impl_labelsApart.l0])
  | succ X =>
   have H := HA.1
   clear HA
   simp only [impl_labelsApart.l0] at H
   replace H := ie_ H; rcases H with ⟨U, H⟩ | ⟨U, H⟩
   ·
    have V := decide_eq_true U
    clear U
    replace H := i2_ H; obtain ⟨oa, pa, H⟩ := H
    have qa := eq_true (of_decide_eq_true (by with_reducible assumption) : 0 ≤ a)
    replace H := in_ H; obtain ⟨c6, H⟩ := H
    have ra := eq_true c6
    have sa := decide_eq_true c6
    clear c6
    obtain ⟨j, hy_⟩ : ∃ y_ : List (S29), y_ = (l0.take (a : Int).toNat) := ⟨_, rfl⟩
    replace H : ((impl_labelsAt.f X j ((rd_T29 l0 a).f0)).bind fun l => (if l ≥ 0 then (some false) else (impl_labelsApart.l0 X l0 l0 (l0.length : Int) (wrap64 (a + 1))))) = some r := hm_
    have s := M_ hy_; clear hy_
    replace H := bi_ H; obtain ⟨l, A7, H⟩ := H
    have AHz_ := M_ H
    clear H
    obtain ⟨o, d, g, E, I, J, L, M, u, x, ca, da⟩ := au_T29 R.1 p a
    cases E
    try go_wp2_with (first | ((with_reducible refine gd_ 4 rfl ?_); refine bV_ 4 #[.slice none 0 0, .int .i64 0, .int .i64 0, .string (⟨#[]⟩ : ByteArray)] 29 ?_; intro c hg w9 b hb; have Y := gq_ hg p; replace p := st_ p hb; clear hb hg; obtain ⟨ea, fa, ga, ha, ia, ja, ka, la⟩ := bc4_ b.1))
    generalize hw_ : ((((w9.setCell ⟨c, 0, none⟩ (.slice d ((rd_T29 l0 a).f0).length g)).setCell ⟨c, 1, none⟩ (.int .i64 ((rd_T29 l0 a).f1))).setCell ⟨c, 2, none⟩ (.int .i64 ((rd_T29 l0 a).f2))).setCell ⟨c, 3, none⟩ (.string ((rd_T29 l0 a).f3))) = ma
    replace b := wp_ hw_ #[.slice d ((rd_T29 l0 a).f0).length g, .int .i64 ((rd_T29 l0 a).f1), .int .i64 ((rd_T29 l0 a).f2), .string ((rd_T29 l0 a).f3)] b
    replace p := wb_ hw_ p
    clear hw_
    obtain ⟨b, p⟩ := y2_ b p
    have F : (a : Int) ≤ ((l0.length : Int) : Int) := of_decide_eq_true (by with_reducible assumption)
    obtain ⟨i013, y, _, hsz13, _⟩ := info_parts info29
    have hroom13 : l0.length ≤ G := Z.1
    have hC13 : Kd.C k29 _ (some o) l0.length l0 := R.1
    have hcut13 := cut_to (P := Tryz.prog) 40 29 .i64 Tryz.underlying40 y (some o) l0.length G a (of_decide_eq_true (by with_reducible assumption)) F hroom13
    have z := Kd.C_take (m := (a : Int).toNat) hC13 (by omega)
    have A : j.length = (a : Int).toNat := (by rw [s.1, List.length_take]; omega)
    rw [← s.1] at z
    rw [← A] at hcut13
    have t := M_ z
    have D := M_ (show j.length ≤ G from by omega)
    clear z hC13 hroom13 y hsz13
    have KY13 := M_ A
    clear A
    replace F := eq_true F
    refine start_ (n := 7) (S := fun w' => c_ w' c 0 (.slice d ((rd_T29 l0 a).f0).length g) ∧ c_ w' c 1 (.int .i64 ((rd_T29 l0 a).f1)) ∧ c_ w' c 2 (.int .i64 ((rd_T29 l0 a).f2)) ∧ c_ w' c 3 (.string ((rd_T29 l0 a).f3))) (ds := []) (b_ 0 7) (by kernel_rfl) rfl rfl (e4_ b.1) (fun q => ?_)
    generalize ma.drew = wa at b p t q ⊢
    refine pure_ (i := 0) (N := some 12) (v := ?_) (a' := ?_) (b_ 1 6) rfl rfl (by kernel_rfl) (fun _ _ _ h => h) (Or.inl ⟨by rfl, ?_⟩) ?_ ?_
    rotate_left
    ·
     intro w'
     go_simp
     with_reducible rfl
    rotate_left
    ·
     simp only [fr_]
     rfl
    refine pure_ (i := 1) (N := some 13) (v := ?_) (a' := ?_) (b_ 2 5) rfl rfl (by kernel_rfl) (fun _ _ _ h => h) (Or.inl ⟨by rfl, ?_⟩) ?_ ?_
    rotate_left
    ·
     intro w'
     go_simp
     with_reducible rfl
    rotate_left
    ·
     simp only [fr_]
     rfl
    refine pure_ (i := 2) (N := some 14) (v := ?_) (a' := ?_) (b_ 3 4) rfl rfl (by kernel_rfl) (fun _ _ _ h => h) (Or.inl ⟨by rfl, ?_⟩) ?_ ?_
    rotate_left
    ·
     intro w'
     go_simp
     with_reducible rfl
    rotate_left
    ·
     simp only [fr_]
     rfl
    refine pure_ (i := 3) (N := some 15) (v := ?_) (a' := ?_) (b_ 4 3) rfl rfl (by kernel_rfl) (fun _ _ _ h => h) (Or.inl ⟨by rfl, ?_⟩) ?_ ?_
    rotate_left
    ·
     intro w'
     go_simp
     with_reducible rfl
    rotate_left
    ·
     simp only [fr_]
     rfl
    refine take_ (i := 4) (N := some 16) (v := ?_) (a' := ?_) (b_ 5 2) rfl rfl (by kernel_rfl) (fun _ _ _ h => h) (Or.inl ⟨by rfl, ?_⟩) q ?_ ?_
    rotate_left
    ·
     rintro w' ⟨s0, s1, s2, s3⟩
     go_simp
     with_reducible rfl
    rotate_left
    ·
     simp only [fr_]
     rfl
    refine one_ (i := 5) (N := some 17) (b_ 6 1) rfl rfl (by kernel_rfl) (by decide) (fun K hK => ?_)
    refine gs_ Tryz.func101 #[.slice (some o) j.length G, .slice d ((rd_T29 l0 a).f0).length g] ?_
    with_reducible refine (impl_labelsAt.calls X _ _ j _ _ ((rd_T29 l0 a).f0) l _ ?_ ?_ ?_ ?_ A7.1).mono ?_
    exact cp_ ((Kd.C_below t.1 p.1))
    exact D.1
    exact cp_ ((Kd.C_below x.1 p.1))
    exact u.1
    rintro e ya ⟨rfl, hb⟩
    refine ⟨_, rfl, ?_⟩
    obtain ⟨b, p⟩ := u2_ hb b p
    (try clear hb)
    refine ho_ hK (e4_ b.1) (fun q => ?_)
    refine pure_ (i := 6) (N := some 18) (v := ?_) (a' := ?_) (b_ 7 0) rfl rfl (by kernel_rfl) (fun _ _ _ h => h) (Or.inl ⟨by rfl, ?_⟩) ?_ ?_
    rotate_left
    ·
     intro w'
     go_simp
     with_reducible rfl
    rotate_left
    ·
     simp only [fr_]
     rfl
    have H := AHz_.1
    clear AHz_
    replace H := ie_ H; rcases H with ⟨W, H⟩ | ⟨W, H⟩
    ·
     have B : decide (0 ≤ l) = true := decide_eq_true W
     clear W
     obtain rfl := Option.some.inj H
     (try simp only [B])
     refine done_ (by kernel_rfl) ?_
     try go_wp2
     go_ret
     exact an_ (hs_ p.1)
    have B : decide (0 ≤ l) = false := decide_eq_false W
    clear W
    have H' := M_ H
    clear H
    (try simp only [B])
    refine done_ (by kernel_rfl) ?_
    try go_wp2
    go_roundg X
    case measure => have := T.1; omega
    case rel => exact ⟨(wrap64 (a + 1)), rs_, H', ⟨by have := T.1; omega⟩, ⟨hs_ p.1⟩⟩
   have V : decide (a < (l0.length : Int)) = false := decide_eq_false U
   clear U
   obtain rfl := Option.some.inj H
   go_wp2
   go_ret
   exact an_ (hs_ p.1)
def impl_ChainOk.l0 : Nat → List (S29) → Int → Int → Int → List (S29) → Option (Bool)
 | 0, _, _, _, _, _ => none
 | k + 1, d, i, c, b, a => if c < i then (if 0 ≤ c then (if c < (d.length : Int) then ((impl_AlarmOk.f k ((rd_T29 d c).f0) ((rd_T29 d c).f1) ((rd_T29 d c).f2) ((rd_T29 d c).f3)).bind fun e => (if e = true then ((impl_Finger.f k ((rd_T29 d c).f0)).bind fun g => (if g = b then (impl_ChainOk.l0 k d i (wrap64 (c + 1)) b a) else (some false))) else (some false))) else (none)) else (none)) else (if (a.length : Int) > 0 then ((impl_labelsApart.f k a).bind fun h => (some h)) else (some false))
def impl_ChainOk.f (k : Nat) (b : Int) (a : List (S29)) : Option (Bool) := impl_ChainOk.l0 k a (a.length : Int) 0 b a
def impl_ChainOk.T4 : Bool × List (List Nat × List Nat) := (true, [([], []), ([0], [0]), ([1], [1]), ([2, 1], [2]), ([3], [3]), ([4, 3], [3, 4]), ([5, 3, 3], [3, 5]), ([3], [3]), ([7, 3], [3, 7]), ([6, 8, 3], [3, 6, 8]), ([3, 9], [3, 9])])
def impl_ChainOk.B4 : List Nat := [0, 1, 3, 7, 15, 31, 63, 15, 143, 511, 1023]
theorem impl_ChainOk.tab4 : rtab .any (opsOf Tryz.f73 4) = impl_ChainOk.T4 := by kernel_rfl
theorem impl_ChainOk.bits4 : waitsOk impl_ChainOk.T4.2 impl_ChainOk.B4 = true := by kernel_rfl
theorem impl_ChainOk.calls (k : Nat) (o : Int) (A : Option Addr) (x : Nat) (a : List (S29)) (r : Bool) (w : World) (D : Kd.C k29 w A a.length a) (E : a.length ≤ x) (h : impl_ChainOk.f k o a = some r) :
  Calls Tryz.prog 73 #[.agg #[.int .i64 o, .slice A a.length x]] w fun e w' => e = .returned (.bool r) ∧ Below w.heap.size w w' := by
 have hu80 := Tryz.underlying80
 have hu29 := Tryz.underlying29
 have F := M_ D
 have M := M_ E
 clear D E
 have p := M_ (Below.refl w.heap.size w)
 unfold impl_ChainOk.f at h
 have H := h; clear h
 have H' := M_ H
 clear H
 go_enter Tryz.func73, Tryz.ntmps73
 go_wp2_with (first | ((with_reducible refine gd_ 1 rfl ?_); refine bV_ 1 #[.int .i64 o, .slice A a.length x] 80 ?_; intro u hg w2 b hb; have ca := gq_ hg p; replace p := st_ p hb; clear hb hg; obtain ⟨Ba, Ca, Da, Ea⟩ := bc2_ b.1))
 go_loopg [8] k (fun kq v8 w' => ∃ (c : Int), v8 = .int .i64 c ∧ Aside0 (impl_ChainOk.l0 kq a (a.length : Int) c o a = some r) ∧ Aside0 (kq ≤ k) ∧ Aside0 (w'.heap[u]? = some (.cells #[.int .i64 o, (.slice A a.length x)] 80 (0, 0))) ∧ Aside0 (Below w.heap.size w w'))
 case atStart => exact ⟨(0), rs_, H', ⟨Nat.le_refl _⟩, ⟨bq_ b.1⟩, ⟨hs_ p.1⟩⟩
 case round =>
  clear H'
  obtain ⟨c, rfl, HA, W, b, p⟩ := hrel
  cases gk with
  | zero => exact absurd HA.1 (by simp [impl_ChainOk.l0])
  | succ X =>
   have H := HA.1
   clear HA
   simp only [impl_ChainOk.l0] at H
   replace H := ie_ H; rcases H with ⟨Y, H⟩ | ⟨Y, H⟩
   ·
    have Z := decide_eq_true Y
    clear Y
    replace H := i2_ H; obtain ⟨Fa, Ga, H⟩ := H
    replace H := bi_ H; obtain ⟨fa, A7, H⟩ := H
    have AHz_ := M_ H
    clear H
    obtain ⟨J, i, j, N, R, T, U, V, q, s, ga, ha⟩ := au_T29 F.1 p c
    cases N
    try go_wp2_with (first | ((with_reducible refine gd_ 4 rfl ?_); refine bV_ 4 #[.slice none 0 0, .int .i64 0, .int .i64 0, .string (⟨#[]⟩ : ByteArray)] 29 ?_; intro g hg ia d hb; have da := gq_ hg p; replace p := st_ p hb; obtain ⟨L, v, b⟩ := nb_ b hg hb; clear hb hg; have ja := n2_ v; obtain ⟨ka, la, ma, na, oa, pa, qa, ra⟩ := bc4_ d.1))
    generalize hw_ : ((((ia.setCell ⟨g, 0, none⟩ (.slice i ((rd_T29 a c).f0).length j)).setCell ⟨g, 1, none⟩ (.int .i64 ((rd_T29 a c).f1))).setCell ⟨g, 2, none⟩ (.int .i64 ((rd_T29 a c).f2))).setCell ⟨g, 3, none⟩ (.string ((rd_T29 a c).f3))) = aa
    replace b := wq_ hw_ b
    replace d := wp_ hw_ #[.slice i ((rd_T29 a c).f0).length j, .int .i64 ((rd_T29 a c).f1), .int .i64 ((rd_T29 a c).f2), .string ((rd_T29 a c).f3)] d
    replace p := wb_ hw_ p
    clear hw_
    obtain ⟨b, d, p⟩ := y3_ b d p
    have H := AHz_.1
    clear AHz_
    replace H := ib_ H; rcases H with ⟨rfl, H⟩ | ⟨rfl, H⟩
    ·
     replace H := bi_ H; obtain ⟨t, A9, H⟩ := H
     have AHz_ := M_ H
     clear H
     refine start_ (n := 11) (S := fun w' => c_ w' g 0 (.slice i ((rd_T29 a c).f0).length j) ∧ c_ w' g 1 (.int .i64 ((rd_T29 a c).f1)) ∧ c_ w' g 2 (.int .i64 ((rd_T29 a c).f2)) ∧ c_ w' g 3 (.string ((rd_T29 a c).f3)) ∧ c_ w' u 0 (.int .i64 o) ∧ c_ w' u 1 (.slice (some J) a.length x)) (ds := []) (b_ 0 11) (by kernel_rfl) rfl rfl (f4_ d.1 (e2_ b.1)) (fun l => ?_); refine with_tabW impl_ChainOk.tab4 impl_ChainOk.bits4 (fun m G => ?_)
     generalize aa.drew = Ka at b d p l ⊢
     refine t0_ m G l ?_
     refine o1_ 1 (b_ 2 9) m (fun K hK => ?_)
     refine gs_ Tryz.func106 #[.agg #[.slice i ((rd_T29 a c).f0).length j, .int .i64 ((rd_T29 a c).f1), .int .i64 ((rd_T29 a c).f2), .string ((rd_T29 a c).f3)]] ?_
     with_reducible refine (impl_AlarmOk.calls X _ _ ((rd_T29 a c).f0) ((rd_T29 a c).f1) ((rd_T29 a c).f2) ((rd_T29 a c).f3) true _ ?_ ?_ A7.1).mono ?_
     exact cp_ ((Kd.C_below s.1 p.1))
     exact q.1
     rintro e La ⟨rfl, hb⟩
     refine ⟨_, rfl, ?_⟩
     obtain ⟨b, d, p⟩ := u3_ hb b d p
     (try clear hb)
     refine ho_ hK (f4_ d.1 (e2_ b.1)) (fun l => ?_)
     iterate 3 refine p_ m ?_
     refine qw_ 7 (m_ 11 159) m ?_
     refine qt_ 5 (m_ 11 191) m G l ?_
     refine qt_ 8 (m_ 11 447) m G l ?_
     refine o1_ 6 (b_ 9 2) m (fun K hK => ?_)
     refine gs_ Tryz.func55 #[.slice i ((rd_T29 a c).f0).length j] ?_
     with_reducible refine (impl_Finger.calls X _ _ ((rd_T29 a c).f0) t _ ?_ ?_ A9.1).mono ?_
     exact cp_ ((Kd.C_below s.1 p.1))
     exact q.1
     rintro e Ma ⟨rfl, hb⟩
     refine ⟨_, rfl, ?_⟩
     obtain ⟨b, d, p⟩ := u3_ hb b d p
     (try clear hb)
     refine ho_ hK (f4_ d.1 (e2_ b.1)) (fun l => ?_)
     iterate 2 refine p_ m ?_
     have H := AHz_.1
     clear AHz_
     replace H := ie_ H; rcases H with ⟨B, H⟩ | ⟨B, H⟩
     ·
      have y : (t == o) = true := beq_iff_eq.mpr B
      have z : (t != o) = false := bne_eq_false_iff_eq.mpr B
      clear B
      have H' := M_ H
      clear H
      (try simp only [y, z])
      refine done_ (done_of m.1 (by kernel_rfl)) ?_
      try go_wp2
      go_roundg X
      case measure => have := W.1; omega
      case rel => exact ⟨(wrap64 (c + 1)), rs_, H', ⟨by have := W.1; omega⟩, ⟨bq_ b.1⟩, ⟨hs_ p.1⟩⟩
     have y : (t == o) = false := beq_eq_false_iff_ne.mpr B
     have z : (t != o) = true := bne_iff_ne.mpr B
     obtain rfl := Option.some.inj H
     (try simp only [y, z])
     refine done_ (done_of m.1 (by kernel_rfl)) ?_
     try go_wp2
     go_ret
     exact an_ (hs_ p.1)
    obtain rfl := Option.some.inj H
    refine start_ (n := 11) (S := fun w' => c_ w' g 0 (.slice i ((rd_T29 a c).f0).length j) ∧ c_ w' g 1 (.int .i64 ((rd_T29 a c).f1)) ∧ c_ w' g 2 (.int .i64 ((rd_T29 a c).f2)) ∧ c_ w' g 3 (.string ((rd_T29 a c).f3))) (ds := []) (b_ 0 11) (by kernel_rfl) rfl rfl (e4_ d.1) (fun l => ?_); refine with_tabW impl_ChainOk.tab4 impl_ChainOk.bits4 (fun m G => ?_)
    generalize aa.drew = Na at b d p l ⊢
    refine t0_ m G l ?_
    refine o1_ 1 (b_ 2 9) m (fun K hK => ?_)
    refine gs_ Tryz.func106 #[.agg #[.slice i ((rd_T29 a c).f0).length j, .int .i64 ((rd_T29 a c).f1), .int .i64 ((rd_T29 a c).f2), .string ((rd_T29 a c).f3)]] ?_
    with_reducible refine (impl_AlarmOk.calls X _ _ ((rd_T29 a c).f0) ((rd_T29 a c).f1) ((rd_T29 a c).f2) ((rd_T29 a c).f3) false _ ?_ ?_ A7.1).mono ?_
    exact cp_ ((Kd.C_below s.1 p.1))
    exact q.1
    rintro e Oa ⟨rfl, hb⟩
    refine ⟨_, rfl, ?_⟩
    obtain ⟨b, d, p⟩ := u3_ hb b d p
    (try clear hb)
    refine ho_ hK (e4_ d.1) (fun l => ?_)
    iterate 2 refine p_ m ?_
    iterate 6 refine v_ m ?_
    refine p_ m ?_
    refine done_ (done_of m.1 (by kernel_rfl)) ?_
    try go_wp2
    go_ret
    exact an_ (hs_ p.1)
   have Z : decide (c < (a.length : Int)) = false := decide_eq_false Y
   clear Y
   replace H := ie_ H; rcases H with ⟨I, H⟩ | ⟨I, H⟩
   ·
    have O : decide (0 < (a.length : Int)) = true := decide_eq_true I
    have P : decide (0 < a.length) = true := decide_eq_true (by omega)
    clear I
    replace H := bi_ H; obtain ⟨Q, sa, H⟩ := H
    obtain rfl := Option.some.inj H
    obtain ⟨ta, ua, va, wa⟩ := bc2_ b.1
    go_wp2_with (first | (go_at_call 107; (with_reducible refine (impl_labelsApart.calls X _ _ a Q _ ?_ ?_ sa.1).mono ?_); exact cp_ ((Kd.C_below F.1 p.1)); exact M.1; rintro e Pa ⟨rfl, hb⟩; obtain ⟨b, p⟩ := u2_ hb b p; (try clear hb)))
    go_ret
    exact an_ (hs_ p.1)
   have O : decide (0 < (a.length : Int)) = false := decide_eq_false I
   have P : decide (0 < a.length) = false := decide_eq_false (by omega)
   clear I
   obtain rfl := Option.some.inj H
   obtain ⟨xa, ya, za, Aa⟩ := bc2_ b.1
   go_wp2
   go_ret
   exact an_ (hs_ p.1)
def impl_PartOf.f (b : Int) (a : Int) : Option (Int) := if a < 1 then (some 0) else (if b < 0 then (some 0) else (if a = 0 then (none) else (some (Int.tmod b a))))
theorem impl_PartOf.calls (i : Int) (a : Int) (r : Int) (w : World) (h : impl_PartOf.f i a = some r) :
  Calls Tryz.prog 74 #[.int .i64 i, .int .i64 a] w fun e w' => e = .returned (.int .i64 r) ∧ Drawn0 w w' := by
 unfold impl_PartOf.f at h
 have H := h; clear h
 replace H := ie_ H; rcases H with ⟨b, H⟩ | ⟨b, H⟩
 ·
  have c := decide_eq_true b
  clear b
  obtain rfl := Option.some.inj H
  go_enter Tryz.func74, Tryz.ntmps74
  go_wp2
  go_ret
  exact ⟨by first | rfl | (simp; done) | (simp [*]; done), by repeat (first | exact Drawn0.refl _ | apply Drawn0.step)⟩
 have c : decide (a < 1) = false := decide_eq_false b
 clear b
 replace H := ie_ H; rcases H with ⟨d, H⟩ | ⟨d, H⟩
 ·
  have g := decide_eq_true d
  clear d
  obtain rfl := Option.some.inj H
  go_enter Tryz.func74, Tryz.ntmps74
  go_wp2
  go_ret
  exact ⟨by first | rfl | (simp; done) | (simp [*]; done), by repeat (first | exact Drawn0.refl _ | apply Drawn0.step)⟩
 have g : decide (i < 0) = false := decide_eq_false d
 clear d
 replace H := io_ H; obtain ⟨j, H⟩ := H
 have k : (a == 0) = false := beq_eq_false_iff_ne.mpr j
 have l : (a != 0) = true := bne_iff_ne.mpr j
 obtain rfl := Option.some.inj H
 go_enter Tryz.func74, Tryz.ntmps74
 go_wp2
 go_ret
 exact ⟨by first | rfl | (simp; done) | (simp [*]; done), by repeat (first | exact Drawn0.refl _ | apply Drawn0.step)⟩
def impl_PartOk.l0 : Nat → Int → Int → List (S80) → Int → Int → Int → Int → List (S80) → Option (Bool)
 | 0, _, _, _, _, _, _, _, _ => none
 | k + 1, l, m, e, g, b, c, d, a => if b < g then (if 0 ≤ b then (if b < (e.length : Int) then ((impl_ChainOk.f k ((rd_T80 e b).f0) ((rd_T80 e b).f1)).bind fun h => (if h = true then ((impl_PartOf.f ((rd_T80 e b).f0) m).bind fun i => (if i = l then (if b > 0 then (if 0 ≤ (wrap64 (b - 1)) then (if (wrap64 (b - 1)) < (a.length : Int) then (if ((rd_T80 a (wrap64 (b - 1))).f0) ≥ ((rd_T80 e b).f0) then (some false) else (impl_PartOk.l0 k l m e g (wrap64 (b + 1)) c d a)) else (none)) else (none)) else (impl_PartOk.l0 k l m e g (wrap64 (b + 1)) c d a)) else (some false))) else (some false))) else (none)) else (none)) else ((impl_in.f c (-1) 4).bind fun j => (if j = true then (some (decide (d ≥ 0))) else (some false)))
def impl_PartOk.f (k : Nat) (b : Int) (c : Int) (a : List (S80)) (d : Int) (e : Int) : Option (Bool) := impl_PartOk.l0 k d e a (a.length : Int) 0 b c a
def impl_PartOk.T4 : Bool × List (List Nat × List Nat) := (true, [([], []), ([0], [0]), ([1], [1]), ([2, 1], [2]), ([3], [3]), ([4, 3], [3, 4]), ([3], [3]), ([5, 6, 3, 3], [3, 5, 6]), ([3], [3]), ([7, 8, 3], [3, 7, 8]), ([3, 9], [3, 9]), ([10, 7], [10]), ([11], [11]), ([12, 11], [11, 12]), ([13, 11, 11], [11, 13]), ([14], [14]), ([15, 14], [14, 15]), ([14], [14]), ([17, 14], [14, 17]), ([16, 18, 14], [14, 16, 18]), ([19, 14], [14, 19]), ([20, 14], [14, 20]), ([14], [14]), ([22, 14], [14, 22]), ([21, 23, 14], [14, 21, 23]), ([14, 24, 11], [11, 14, 24]), ([11, 25], [11, 25])])
def impl_PartOk.B4 : List Nat := [0, 1, 3, 7, 15, 31, 15, 127, 15, 511, 1023, 2047, 4095, 8191, 16383, 32767, 65535, 32767, 163839, 524287, 1048575, 2097151, 32767, 4227071, 16777215, 33554431, 67108863]
theorem impl_PartOk.tab4 : rtab .any (opsOf Tryz.f21 4) = impl_PartOk.T4 := by kernel_rfl
theorem impl_PartOk.bits4 : waitsOk impl_PartOk.T4.2 impl_PartOk.B4 = true := by kernel_rfl
theorem impl_PartOk.calls (k : Nat) (z : Int) (F : Int) (P : Option Addr) (L : Nat) (b : List (S80)) (a1 : Int) (a2 : Int) (r : Bool) (w : World) (U : Kd.C k80 w P b.length b) (V : b.length ≤ L) (h : impl_PartOk.f k z F b a1 a2 = some r) :
  Calls Tryz.prog 21 #[.agg #[.int .i64 z, .int .i64 F, .slice P b.length L], .int .i64 a1, .int .i64 a2] w fun e w' => e = .returned (.bool r) ∧ Below w.heap.size w w' := by
 have hu26 := Tryz.underlying26
 have hu80 := Tryz.underlying80
 have W := M_ U
 have ya := M_ V
 clear U V
 have s := M_ (Below.refl w.heap.size w)
 unfold impl_PartOk.f at h
 have H := h; clear h
 have H' := M_ H
 clear H
 go_enter Tryz.func21, Tryz.ntmps21
 go_wp2_with (first | ((with_reducible refine gd_ 3 rfl ?_); refine bV_ 3 #[.int .i64 z, .int .i64 F, .slice P b.length L] 26 ?_; intro D hg w4 c hb; have va := gq_ hg s; replace s := st_ s hb; clear hb hg; obtain ⟨Ua, Va, Wa, Xa, Ya, Za⟩ := bc3_ c.1))
 go_loopg [12] k (fun kq za w' => ∃ (a : Int), za = .int .i64 a ∧ Aside0 (impl_PartOk.l0 kq a1 a2 b (b.length : Int) a z F b = some r) ∧ Aside0 (kq ≤ k) ∧ Aside0 (w'.heap[D]? = some (.cells #[.int .i64 z, .int .i64 F, (.slice P b.length L)] 26 (0, 0))) ∧ Aside0 (Below w.heap.size w w'))
 case atStart => exact ⟨(0), rs_, H', ⟨Nat.le_refl _⟩, ⟨bq_ c.1⟩, ⟨hs_ s.1⟩⟩
 case round =>
  clear H'
  obtain ⟨a, rfl, HA, ca, c, s⟩ := hrel
  cases gk with
  | zero => exact absurd HA.1 (by simp [impl_PartOk.l0])
  | succ k1 =>
   have H := HA.1
   clear HA
   simp only [impl_PartOk.l0] at H
   replace H := ie_ H; rcases H with ⟨c6, H⟩ | ⟨c6, H⟩
   ·
    have ta := decide_eq_true c6
    clear c6
    replace H := i2_ H; obtain ⟨ab, bb, H⟩ := H
    replace H := bi_ H; obtain ⟨Ba, A9, H⟩ := H
    have AHz_ := M_ H
    clear H
    obtain ⟨E, j, l, ja, pa, qa, v, x, Ca, Da⟩ := au_T80 W.1 s a
    cases ja
    try go_wp2_with (first | ((with_reducible refine gd_ 8 rfl ?_); refine bV_ 8 #[.int .i64 0, .slice none 0 0] 80 ?_; intro m hg Ea d hb; have wa := gq_ hg s; replace s := st_ s hb; obtain ⟨da, J, c⟩ := nb_ c hg hb; clear hb hg; have Fa := n2_ J; obtain ⟨Ga, Ha, Ia, Ja⟩ := bc2_ d.1))
    generalize hw_ : ((Ea.setCell ⟨m, 0, none⟩ (.int .i64 ((rd_T80 b a).f0))).setCell ⟨m, 1, none⟩ (.slice j ((rd_T80 b a).f1).length l)) = ea
    replace c := wq_ hw_ c
    replace d := wp_ hw_ #[.int .i64 ((rd_T80 b a).f0), .slice j ((rd_T80 b a).f1).length l] d
    replace s := wb_ hw_ s
    clear hw_
    obtain ⟨c, d, s⟩ := y3_ c d s
    have H := AHz_.1
    clear AHz_
    replace H := ib_ H; rcases H with ⟨rfl, H⟩ | ⟨rfl, H⟩
    ·
     replace H := bi_ H; obtain ⟨y, fa, H⟩ := H
     replace H := ie_ H; rcases H with ⟨Q, H⟩ | ⟨Q, H⟩
     ·
      have ka : (y == a1) = true := beq_iff_eq.mpr Q
      have la : (y != a1) = false := bne_eq_false_iff_eq.mpr Q
      clear Q
      replace H := ie_ H; rcases H with ⟨X, H⟩ | ⟨X, H⟩
      ·
       have ma : decide (0 < a) = true := decide_eq_true X
       clear X
       obtain ⟨t, A⟩ : ∃ j_ : Int, (wrap64 (a - 1)) = j_ := ⟨_, rfl⟩
       replace H : (if 0 ≤ (t) then (if (t) < (b.length : Int) then (if ((rd_T80 b (t)).f0) ≥ ((rd_T80 b a).f0) then (some false) else (impl_PartOk.l0 k1 a1 a2 b (b.length : Int) (wrap64 (a + 1)) z F b)) else (none)) else (none)) = some r := by first | (rw [A] at H; exact H) | (simp only [A] at H ⊢; exact H)
       (try rw [A] at A9)
       (try rw [A] at fa)
       have xa : (IntKind.i64.wrap (a - 1)) = t := (i64_w _).trans A
       replace H := i2_ H; obtain ⟨Ka, La, H⟩ := H
       have AHz_ := M_ H
       clear H
       obtain ⟨M, N⟩ : 0 ≤ ((t) : Int) ∧ (t) < (b.length : Int) := pq_
       obtain ⟨ga, Y, Z, na, o, u, G, I⟩ := at_T80 W.1 (t) M N
       have p := u
       have q := o
       obtain rfl : E = ga := (by injection na)
       replace o := c2_ s o u; clear u; obtain ⟨o, u⟩ := o
       have R := M_ I
       have ra := M_ G
       clear I G
       replace M := eq_true M; replace N := eq_true N
       refine start_ (n := 27) (S := fun w' => c_ w' m 0 (.int .i64 ((rd_T80 b a).f0)) ∧ c_ w' m 1 (.slice j ((rd_T80 b a).f1).length l) ∧ c_ w' D 0 (.int .i64 z) ∧ c_ w' D 1 (.int .i64 F) ∧ c_ w' D 2 (.slice (some E) b.length L) ∧ w'.cell? (E.add (((t)).toNat * 2)) = some (.int .i64 ((rd_T80 b (t)).f0)) ∧ d_ w' (E.add (((t)).toNat * 2)) 1 (.slice Y ((rd_T80 b (t)).f1).length Z)) (ds := []) (b_ 0 27) (by kernel_rfl) rfl rfl ⟨bx_ d.1 0, bx_ d.1 1, bx_ c.1 0, bx_ c.1 1, bx_ c.1 2, ((s.1.cell (World.block_lt_of_cell? w _ q)).trans q), ((s.1.cell (World.block_lt_of_cell? w _ p)).trans p)⟩ (fun i => ?_); refine with_tabW impl_PartOk.tab4 impl_PartOk.bits4 (fun g B => ?_)
       generalize ea.drew = cb at c d s R o u i ⊢
       refine t0_ g B i ?_
       refine o1_ 1 (b_ 2 25) g (fun K T => ?_)
       refine gs_ Tryz.func73 #[.agg #[.int .i64 ((rd_T80 b a).f0), .slice j ((rd_T80 b a).f1).length l]] ?_
       with_reducible refine (impl_ChainOk.calls k1 ((rd_T80 b a).f0) _ _ ((rd_T80 b a).f1) true _ ?_ ?_ A9.1).mono ?_
       exact cp_ ((Kd.C_below x.1 s.1))
       exact v.1
       rintro e db ⟨rfl, hb⟩
       refine ⟨_, rfl, ?_⟩
       obtain ⟨c, d, s⟩ := u3_ hb c d s
       (try clear hb)
       refine ho_ T ⟨bx_ d.1 0, bx_ d.1 1, bx_ c.1 0, bx_ c.1 1, bx_ c.1 2, ((s.1.cell (World.block_lt_of_cell? w _ q)).trans q), ((s.1.cell (World.block_lt_of_cell? w _ p)).trans p)⟩ (fun i => ?_)
       iterate 3 refine p_ g ?_
       refine qw_ 6 (m_ 27 95) g ?_
       refine qw_ 8 (m_ 27 351) g ?_
       refine qt_ 5 (m_ 27 383) g B i ?_
       refine o1_ 7 (b_ 9 18) g (fun K T => ?_)
       refine gs_ Tryz.func74 #[.int .i64 ((rd_T80 b a).f0), .int .i64 a2] ?_
       with_reducible refine (impl_PartOf.calls ((rd_T80 b a).f0) a2 y _ fa.1).mono ?_
       rintro e w' ⟨rfl, ⟨nd, rfl⟩⟩
       refine ⟨_, rfl, ?_⟩
       refine ho_ T ⟨bx_ d.1 0, bx_ d.1 1, bx_ c.1 0, bx_ c.1 1, bx_ c.1 2, ((s.1.cell (World.block_lt_of_cell? w _ q)).trans q), ((s.1.cell (World.block_lt_of_cell? w _ p)).trans p)⟩ (fun i => ?_)
       iterate 7 refine p_ g ?_
       refine qw_ 17 (m_ 27 196607) g ?_
       refine qw_ 18 (m_ 27 458751) g ?_
       refine qw_ 22 (m_ 27 4653055) g ?_
       refine qt_ 16 (m_ 27 4718591) g B i ?_
       refine qw_ 19 (m_ 27 5242879) g ?_
       refine qw_ 20 (m_ 27 6291455) g ?_
       refine qt_ 21 (b_ 23 4) g B i ?_
       refine t0_ g B i ?_
       iterate 3 refine p_ g ?_
       have H := AHz_.1
       clear AHz_
       replace H := ie_ H; rcases H with ⟨aa, H⟩ | ⟨aa, H⟩
       ·
        have O : decide (((rd_T80 b a).f0) ≤ ((rd_T80 b (t)).f0)) = true := decide_eq_true aa
        clear aa
        obtain rfl := Option.some.inj H
        (try simp only [O])
        refine done_ (done_of g.1 (by kernel_rfl)) ?_
        try go_wp2
        go_ret
        exact ⟨by first | rfl | (simp [errW_none, errW_some] <;> rfl) | (simp only [← A]; first | rfl | (simp [errW_none, errW_some] <;> rfl)) | (simp [*, errW_none, errW_some] <;> rfl), hs_ s.1⟩
       have O : decide (((rd_T80 b a).f0) ≤ ((rd_T80 b (t)).f0)) = false := decide_eq_false aa
       clear aa
       have H' := M_ H
       clear H
       (try simp only [O])
       refine done_ (done_of g.1 (by kernel_rfl)) ?_
       try go_wp2
       go_roundg k1
       case measure => have := ca.1; omega
       case rel => exact ⟨(wrap64 (a + 1)), rs_, H', ⟨by have := ca.1; omega⟩, ⟨bq_ c.1⟩, ⟨hs_ s.1⟩⟩
      have ma : decide (0 < a) = false := decide_eq_false X
      clear X
      have H' := M_ H
      clear H
      refine start_ (n := 27) (S := fun w' => c_ w' m 0 (.int .i64 ((rd_T80 b a).f0)) ∧ c_ w' m 1 (.slice j ((rd_T80 b a).f1).length l)) (ds := []) (b_ 0 27) (by kernel_rfl) rfl rfl (e2_ d.1) (fun i => ?_); refine with_tabW impl_PartOk.tab4 impl_PartOk.bits4 (fun g B => ?_)
      generalize ea.drew = eb at c d s i ⊢
      refine t0_ g B i ?_
      refine o1_ 1 (b_ 2 25) g (fun K T => ?_)
      refine gs_ Tryz.func73 #[.agg #[.int .i64 ((rd_T80 b a).f0), .slice j ((rd_T80 b a).f1).length l]] ?_
      with_reducible refine (impl_ChainOk.calls k1 ((rd_T80 b a).f0) _ _ ((rd_T80 b a).f1) true _ ?_ ?_ A9.1).mono ?_
      exact cp_ ((Kd.C_below x.1 s.1))
      exact v.1
      rintro e fb ⟨rfl, hb⟩
      refine ⟨_, rfl, ?_⟩
      obtain ⟨c, d, s⟩ := u3_ hb c d s
      (try clear hb)
      refine ho_ T (e2_ d.1) (fun i => ?_)
      iterate 3 refine p_ g ?_
      refine qw_ 6 (m_ 27 95) g ?_
      refine qw_ 8 (m_ 27 351) g ?_
      refine qt_ 5 (m_ 27 383) g B i ?_
      refine o1_ 7 (b_ 9 18) g (fun K T => ?_)
      refine gs_ Tryz.func74 #[.int .i64 ((rd_T80 b a).f0), .int .i64 a2] ?_
      with_reducible refine (impl_PartOf.calls ((rd_T80 b a).f0) a2 y _ fa.1).mono ?_
      rintro e w' ⟨rfl, ⟨nd, rfl⟩⟩
      refine ⟨_, rfl, ?_⟩
      refine ho_ T (e2_ d.1) (fun i => ?_)
      iterate 6 refine p_ g ?_
      iterate 10 refine v_ g ?_
      iterate 2 refine p_ g ?_
      refine done_ (done_of g.1 (by kernel_rfl)) ?_
      try go_wp2
      go_roundg k1
      case measure => have := ca.1; omega
      case rel => exact ⟨(wrap64 (a + 1)), rs_, H', ⟨by have := ca.1; omega⟩, ⟨bq_ c.1⟩, ⟨hs_ s.1⟩⟩
     have ka : (y == a1) = false := beq_eq_false_iff_ne.mpr Q
     have la : (y != a1) = true := bne_iff_ne.mpr Q
     obtain rfl := Option.some.inj H
     refine start_ (n := 27) (S := fun w' => c_ w' m 0 (.int .i64 ((rd_T80 b a).f0)) ∧ c_ w' m 1 (.slice j ((rd_T80 b a).f1).length l)) (ds := []) (b_ 0 27) (by kernel_rfl) rfl rfl (e2_ d.1) (fun i => ?_); refine with_tabW impl_PartOk.tab4 impl_PartOk.bits4 (fun g B => ?_)
     generalize ea.drew = gb at c d s i ⊢
     refine t0_ g B i ?_
     refine o1_ 1 (b_ 2 25) g (fun K T => ?_)
     refine gs_ Tryz.func73 #[.agg #[.int .i64 ((rd_T80 b a).f0), .slice j ((rd_T80 b a).f1).length l]] ?_
     with_reducible refine (impl_ChainOk.calls k1 ((rd_T80 b a).f0) _ _ ((rd_T80 b a).f1) true _ ?_ ?_ A9.1).mono ?_
     exact cp_ ((Kd.C_below x.1 s.1))
     exact v.1
     rintro e ib ⟨rfl, hb⟩
     refine ⟨_, rfl, ?_⟩
     obtain ⟨c, d, s⟩ := u3_ hb c d s
     (try clear hb)
     refine ho_ T (e2_ d.1) (fun i => ?_)
     iterate 3 refine p_ g ?_
     refine qw_ 6 (m_ 27 95) g ?_
     refine qw_ 8 (m_ 27 351) g ?_
     refine qt_ 5 (m_ 27 383) g B i ?_
     refine o1_ 7 (b_ 9 18) g (fun K T => ?_)
     refine gs_ Tryz.func74 #[.int .i64 ((rd_T80 b a).f0), .int .i64 a2] ?_
     with_reducible refine (impl_PartOf.calls ((rd_T80 b a).f0) a2 y _ fa.1).mono ?_
     rintro e w' ⟨rfl, ⟨nd, rfl⟩⟩
     refine ⟨_, rfl, ?_⟩
     refine ho_ T (e2_ d.1) (fun i => ?_)
     iterate 3 refine p_ g ?_
     iterate 14 refine v_ g ?_
     refine p_ g ?_
     refine done_ (done_of g.1 (by kernel_rfl)) ?_
     try go_wp2
     go_ret
     exact an_ (hs_ s.1)
    obtain rfl := Option.some.inj H
    refine start_ (n := 27) (S := fun w' => c_ w' m 0 (.int .i64 ((rd_T80 b a).f0)) ∧ c_ w' m 1 (.slice j ((rd_T80 b a).f1).length l)) (ds := []) (b_ 0 27) (by kernel_rfl) rfl rfl (e2_ d.1) (fun i => ?_); refine with_tabW impl_PartOk.tab4 impl_PartOk.bits4 (fun g B => ?_)
    generalize ea.drew = jb at c d s i ⊢
    refine t0_ g B i ?_
    refine o1_ 1 (b_ 2 25) g (fun K T => ?_)
    refine gs_ Tryz.func73 #[.agg #[.int .i64 ((rd_T80 b a).f0), .slice j ((rd_T80 b a).f1).length l]] ?_
    with_reducible refine (impl_ChainOk.calls k1 ((rd_T80 b a).f0) _ _ ((rd_T80 b a).f1) false _ ?_ ?_ A9.1).mono ?_
    exact cp_ ((Kd.C_below x.1 s.1))
    exact v.1
    rintro e kb ⟨rfl, hb⟩
    refine ⟨_, rfl, ?_⟩
    obtain ⟨c, d, s⟩ := u3_ hb c d s
    (try clear hb)
    refine ho_ T (e2_ d.1) (fun i => ?_)
    iterate 2 refine p_ g ?_
    iterate 6 refine v_ g ?_
    iterate 2 refine p_ g ?_
    iterate 14 refine v_ g ?_
    refine p_ g ?_
    refine done_ (done_of g.1 (by kernel_rfl)) ?_
    try go_wp2
    go_ret
    exact an_ (hs_ s.1)
   have ta : decide (a < (b.length : Int)) = false := decide_eq_false c6
   clear c6
   replace H := bi_ H; obtain ⟨oa, Na, H⟩ := H
   have AHz_ := M_ H
   clear H
   obtain ⟨Oa, Pa, Qa, Ra, Sa, Ta⟩ := bc3_ c.1
   go_wp2_with (first | (((with_reducible refine gate_callee (f := 75) rfl ?_); refine gl_ (some 47) Tryz.func75 #[.int .i64 z, .int .i64 (-1), .int .i64 4] ?_; (with_reducible refine (impl_in.calls z (-1) 4 oa _ Na.1).mono ?_); rintro e w' ⟨rfl, ⟨nd, rfl⟩⟩; refine ⟨_, rfl, ?_⟩); refine Aside0.out ?_))
   have H := AHz_.1
   clear AHz_
   replace H := ib_ H; rcases H with ⟨rfl, H⟩ | ⟨rfl, H⟩
   ·
    obtain rfl := Option.some.inj H
    refine ⟨?_⟩
    go_wp2
    go_ret
    exact an_ (hs_ s.1)
   obtain rfl := Option.some.inj H
   refine ⟨?_⟩
   go_wp2
   go_ret
   exact an_ (hs_ s.1)
def spec_AlarmOk.f (k : Nat) (a : List (S99)) (b : Int) (h : Int) (i : ByteArray) : Option (Bool) := (spec_SetOk.f k a).bind fun c => (if c = true then (if (a.length : Int) > 0 then ((spec_l1In.f b 0 99999).bind fun d => (if d = true then ((spec_l1In.f h b 99999).bind fun e => (if e = true then ((spec_PlainOk.f k i).bind fun g => (some g)) else (some false))) else (some false))) else (some false)) else (some false))
theorem spec_AlarmOk.calls (k : Nat) (d : Option Addr) (g : Nat) (a : List (S99)) (c : Int) (i : Int) (j : ByteArray) (r : Bool) (w : World) (m : Kd.C k99 w d a.length a) (n : a.length ≤ g) (h : spec_AlarmOk.f k a c i j = some r) :
  Calls Tryz.prog 108 #[.agg #[.slice d a.length g, .int .i64 c, .int .i64 i, .string j]] w fun e w' => e = .returned (.bool r) ∧ Below w.heap.size w w' := by
 have hu29 := Tryz.underlying29
 have o := M_ m
 have p := M_ n
 clear m n
 have l := M_ (Below.refl w.heap.size w)
 unfold spec_AlarmOk.f at h
 have H := h; clear h
 replace H := bi_ H; obtain ⟨z, V, H⟩ := H
 have AHz_ := M_ H
 clear H
 go_enter Tryz.func108, Tryz.ntmps108
 go_wp2_with (first | (((with_reducible refine gd_ 1 rfl ?_); refine bV_ 1 #[.slice d a.length g, .int .i64 c, .int .i64 i, .string j] 29 ?_; intro x hg X b hb; have y := gq_ hg l; replace l := st_ l hb; clear hb hg; obtain ⟨A, B, D, E, F, G, I, J⟩ := bc4_ b.1); refine Aside0.out ?_))
 have H := AHz_.1
 clear AHz_
 replace H := ib_ H; rcases H with ⟨rfl, H⟩ | ⟨rfl, H⟩
 ·
  have AHz_ := M_ H
  clear H
  refine ⟨?_⟩
  go_wp2_with (first | (((with_reducible refine gate_callee (f := 118) rfl ?_); refine gl_ (some 5) Tryz.func118 #[.slice d a.length g] ?_; (with_reducible refine (spec_SetOk.calls k _ _ a true _ ?_ ?_ V.1).mono ?_); exact cp_ ((Kd.C_below o.1 l.1)); exact p.1; rintro e Y ⟨rfl, hb⟩; refine ⟨_, rfl, ?_⟩; obtain ⟨b, l⟩ := u2_ hb b l; (try clear hb); obtain ⟨K, L, M, N, O, P, Q, R⟩ := bc4_ b.1); refine Aside0.out ?_))
  have H := AHz_.1
  clear AHz_
  replace H := ie_ H; rcases H with ⟨s, H⟩ | ⟨s, H⟩
  ·
   have t : decide (0 < (a.length : Int)) = true := decide_eq_true s
   have u : decide (0 < a.length) = true := decide_eq_true (by omega)
   clear s
   replace H := bi_ H; obtain ⟨S, T, H⟩ := H
   replace H := ib_ H; rcases H with ⟨rfl, H⟩ | ⟨rfl, H⟩
   ·
    replace H := bi_ H; obtain ⟨U, W, H⟩ := H
    replace H := ib_ H; rcases H with ⟨rfl, H⟩ | ⟨rfl, H⟩
    ·
     replace H := bi_ H; obtain ⟨q, Z, H⟩ := H
     obtain rfl := Option.some.inj H
     refine ⟨?_⟩
     go_wp2_with (first | (go_at_call 78; (with_reducible refine (spec_l1In.calls c 0 99999 true _ T.1).mono ?_); rintro e w' ⟨rfl, ⟨v, rfl⟩⟩) | (go_at_call 78; (with_reducible refine (spec_l1In.calls i c 99999 true _ W.1).mono ?_); rintro e w' ⟨rfl, ⟨v, rfl⟩⟩) | (go_at_call 122; (with_reducible refine (spec_PlainOk.calls k j q _ Z.1).mono ?_); rintro e w' ⟨rfl, ⟨v, rfl⟩⟩))
     go_ret
     exact an_ (hs_ l.1)
    obtain rfl := Option.some.inj H
    refine ⟨?_⟩
    go_wp2_with (first | (go_at_call 78; (with_reducible refine (spec_l1In.calls c 0 99999 true _ T.1).mono ?_); rintro e w' ⟨rfl, ⟨v, rfl⟩⟩) | (go_at_call 78; (with_reducible refine (spec_l1In.calls i c 99999 false _ W.1).mono ?_); rintro e w' ⟨rfl, ⟨v, rfl⟩⟩))
    go_ret
    exact an_ (hs_ l.1)
   obtain rfl := Option.some.inj H
   refine ⟨?_⟩
   go_wp2_with (first | (go_at_call 78; (with_reducible refine (spec_l1In.calls c 0 99999 false _ T.1).mono ?_); rintro e w' ⟨rfl, ⟨v, rfl⟩⟩))
   go_ret
   exact an_ (hs_ l.1)
  have t : decide (0 < (a.length : Int)) = false := decide_eq_false s
  have u : decide (0 < a.length) = false := decide_eq_false (by omega)
  clear s
  obtain rfl := Option.some.inj H
  refine ⟨?_⟩
  go_wp2
  go_ret
  exact an_ (hs_ l.1)
 obtain rfl := Option.some.inj H
 refine ⟨?_⟩
 go_wp2_with (first | ((with_reducible refine gate_callee (f := 118) rfl ?_); refine gl_ (some 5) Tryz.func118 #[.slice d a.length g] ?_; (with_reducible refine (spec_SetOk.calls k _ _ a false _ ?_ ?_ V.1).mono ?_); exact cp_ ((Kd.C_below o.1 l.1)); exact p.1; rintro e aa ⟨rfl, hb⟩; refine ⟨_, rfl, ?_⟩; obtain ⟨b, l⟩ := u2_ hb b l; (try clear hb)))
 go_ret
 exact an_ (hs_ l.1)
mutual
def spec_ChainOk.l0 : Nat → Int → Int → List (S29) → Option (Bool)
 | 0, _, _, _ => none
 | k + 1, c, b, a => if c < (a.length : Int) then (if 0 ≤ c then ((spec_AlarmOk.f k ((rd_T29 a c).f0) ((rd_T29 a c).f1) ((rd_T29 a c).f2) ((rd_T29 a c).f3)).bind fun d => (if d = true then ((spec_Finger.f k ((rd_T29 a c).f0)).bind fun e => (spec_ChainOk.j1 k c (e != b) b a)) else (spec_ChainOk.j1 k c true b a))) else (none)) else (some (decide ((a.length : Int) > 0)))
def spec_ChainOk.j1 : Nat → Int → Bool → Int → List (S29) → Option (Bool)
 | 0, _, _, _, _ => none
 | k + 1, d, c, a, b => if c = true then (some false) else (spec_ChainOk.l1 k d 0 a b)
def spec_ChainOk.l1 : Nat → Int → Int → Int → List (S29) → Option (Bool)
 | 0, _, _, _, _ => none
 | k + 1, d, e, b, a => if e < d then (if 0 ≤ e then (if e < (a.length : Int) then (if 0 ≤ d then (if d < (a.length : Int) then ((spec_SameSet.f k ((rd_T29 a e).f0) ((rd_T29 a d).f0)).bind fun c => (if c = true then (some false) else (spec_ChainOk.l1 k d (wrap64 (e + 1)) b a))) else (none)) else (none)) else (none)) else (none)) else (spec_ChainOk.l0 k (wrap64 (d + 1)) b a)
end
def spec_ChainOk.f (k : Nat) (a : Int) (b : List (S29)) : Option (Bool) := spec_ChainOk.l0 k 0 a b
def spec_ChainOk.T4 : Bool × List (List Nat × List Nat) := (true, [([], []), ([0], [0]), ([], []), ([1, 2], [1, 2]), ([3], [3]), ([4], [4]), ([5], [5]), ([6, 5], [6]), ([7], [7]), ([8, 7], [7, 8]), ([7], [7]), ([9, 10, 7], [7, 9, 10]), ([11, 7], [7, 11]), ([12, 7], [7, 12]), ([13, 7, 7], [7, 13]), ([7], [7]), ([15, 7], [7, 15]), ([14, 16, 7], [7, 14, 16]), ([7, 17], [7, 17])])
def spec_ChainOk.B4 : List Nat := [0, 1, 0, 7, 15, 31, 63, 127, 255, 511, 255, 2047, 4095, 8191, 16383, 255, 33023, 131071, 262143]
theorem spec_ChainOk.tab4 : rtab .any (opsOf Tryz.f76 4) = spec_ChainOk.T4 := by kernel_rfl
theorem spec_ChainOk.bits4 : waitsOk spec_ChainOk.T4.2 spec_ChainOk.B4 = true := by kernel_rfl
def spec_ChainOk.T9 : Bool × List (List Nat × List Nat) := (true, [([], []), ([0], [0]), ([], []), ([1, 2], [1, 2]), ([3], [3]), ([4], [4]), ([], []), ([6], [6]), ([], []), ([7, 8], [7, 8]), ([9], [9]), ([10], [10]), ([5, 11], [5, 11])])
def spec_ChainOk.B9 : List Nat := [0, 1, 0, 7, 15, 31, 0, 64, 0, 448, 960, 1984, 4095]
theorem spec_ChainOk.tab9 : rtab .any (opsOf Tryz.f76 9) = spec_ChainOk.T9 := by kernel_rfl
theorem spec_ChainOk.bits9 : waitsOk spec_ChainOk.T9.2 spec_ChainOk.B9 = true := by kernel_rfl
theorem spec_ChainOk.calls (k : Nat) (aa : Int) (Da : Option Addr) (sa : Nat) (c : List (S29)) (r : Bool) (w : World) (Qa : Kd.C k29 w Da c.length c) (Ra : c.length ≤ sa) (h : spec_ChainOk.f k aa c = some r) :
  Calls Tryz.prog 76 #[.agg #[.int .i64 aa, .slice Da c.length sa]] w fun e w' => e = .returned (.bool r) ∧ Below w.heap.size w w' := by
 have hu80 := Tryz.underlying80
 have hu29 := Tryz.underlying29
 have ta := M_ Qa
 have mb := M_ Ra
 clear Qa Ra
 have g := M_ (Below.refl w.heap.size w)
 unfold spec_ChainOk.f at h
 have H := h; clear h
 have H' := M_ H
 clear H
 go_enter Tryz.func76, Tryz.ntmps76
 go_wp2_with (first | ((with_reducible refine gd_ 1 rfl ?_); refine bV_ 1 #[.int .i64 aa, .slice Da c.length sa] 80 ?_; intro R hg w2 b hb; have jb := gq_ hg g; replace g := st_ g hb; clear hb hg))
 go_loopg [3] k (fun kq v3 w' => ∃ (a : Int), v3 = .int .i64 a ∧ Aside0 (spec_ChainOk.l0 kq a aa c = some r) ∧ Aside0 (kq ≤ k) ∧ Aside0 (w'.heap[R]? = some (.cells #[.int .i64 aa, (.slice Da c.length sa)] 80 (0, 0))) ∧ Aside0 (Below w.heap.size w w'))
 case atStart => exact ⟨(0), rs_, H', ⟨Nat.le_refl _⟩, ⟨bq_ b.1⟩, ⟨hs_ g.1⟩⟩
 case round =>
  clear H'
  obtain ⟨a, rfl, HA, Oa, b, g⟩ := hrel
  cases gk with
  | zero => exact absurd HA.1 (by simp [spec_ChainOk.l0])
  | succ k1 =>
   have H := HA.1
   clear HA
   simp only [spec_ChainOk.l0] at H
   replace H := ie_ H; rcases H with ⟨c3, H⟩ | ⟨c3, H⟩
   ·
    have db := decide_eq_true c3
    clear c3
    have Za := M_ H
    clear H
    obtain ⟨yb, zb, Ab, Bb⟩ := bc2_ b.1
    go_upto_region 4 with (fail)
    go_cut [30] (fun nb wc => ∃ (kq : Nat) (Ia : Bool), nb = .bool Ia ∧ Aside0 (spec_ChainOk.j1 kq a Ia aa c = some r) ∧ Aside0 (kq ≤ k1) ∧ Aside0 (wc.heap[R]? = some (.cells #[.int .i64 aa, (.slice Da c.length sa)] 80 (0, 0))) ∧ Aside0 (Below w.heap.size w wc))
    case first =>
     have H := Za.1
     clear Za
     replace H := id_ H; obtain ⟨Ya, H⟩ := H
     (first | rw [Ya] | (simp only [i64_w, i32_w]; rw [Ya]) | skip)
     replace H := bi_ H; obtain ⟨ob, A7, H⟩ := H
     replace H := ib_ H; rcases H with ⟨rfl, H⟩ | ⟨rfl, H⟩
     ·
      replace H := bi_ H; obtain ⟨Ta, A9, H⟩ := H
      have H' := M_ H
      clear H
      try go_wp2
      obtain ⟨b, g⟩ := y2_ b g
      obtain ⟨ua, va⟩ : 0 ≤ (a : Int) ∧ a < (c.length : Int) := pq_
      obtain ⟨q, Y, Z, Ja, l, s, t, u, ba, ca⟩ := at_T29 ta.1 a ua va
      have v := u
      have x := t
      have y := s
      have z := l
      cases Ja
      replace l := c4_ g l s t u; clear s t u; obtain ⟨l, s, t, u⟩ := l
      have da := M_ ca
      have Aa := M_ ba
      clear ca ba
      replace ua := eq_true ua; replace va := eq_true va
      obtain ⟨Ka, La⟩ : 0 ≤ (a : Int) ∧ a < (c.length : Int) := pq_
      obtain ⟨Va, eb, fb, ab, T, ea, fa, ga, Ea, Fa⟩ := at_T29 ta.1 a Ka La
      have U := ga
      have V := fa
      have W := ea
      have X := T
      obtain rfl : q = Va := (by injection ab)
      replace T := c4_ g T ea fa ga; clear ea fa ga; obtain ⟨T, ea, fa, ga⟩ := T
      have Ga := M_ Fa
      have Pa := M_ Ea
      clear Fa Ea
      replace Ka := eq_true Ka; replace La := eq_true La
      have ea_ := Option.some.inj (l.symm.trans T)
      injection ea_ with ea_ en_ ec_
      subst ea_
      subst ec_
      clear en_
      refine start_ (n := 19) (S := fun w' => c_ w' R 0 (.int .i64 aa) ∧ c_ w' R 1 (.slice (some q) c.length sa) ∧ w'.cell? (q.add ((a).toNat * 4)) = some (.slice Y ((rd_T29 c a).f0).length Z) ∧ d_ w' (q.add ((a).toNat * 4)) 1 (.int .i64 ((rd_T29 c a).f1)) ∧ d_ w' (q.add ((a).toNat * 4)) 2 (.int .i64 ((rd_T29 c a).f2)) ∧ d_ w' (q.add ((a).toNat * 4)) 3 (.string ((rd_T29 c a).f3)) ∧ w'.cell? (q.add ((a).toNat * 4)) = some (.slice Y ((rd_T29 c a).f0).length Z) ∧ d_ w' (q.add ((a).toNat * 4)) 1 (.int .i64 ((rd_T29 c a).f1)) ∧ d_ w' (q.add ((a).toNat * 4)) 2 (.int .i64 ((rd_T29 c a).f2)) ∧ d_ w' (q.add ((a).toNat * 4)) 3 (.string ((rd_T29 c a).f3))) (ds := []) (b_ 0 19) (by kernel_rfl) rfl rfl ⟨bx_ b.1 0, bx_ b.1 1, ((g.1.cell (World.block_lt_of_cell? w _ z)).trans z), ((g.1.cell (World.block_lt_of_cell? w _ y)).trans y), ((g.1.cell (World.block_lt_of_cell? w _ x)).trans x), ((g.1.cell (World.block_lt_of_cell? w _ v)).trans v), ((g.1.cell (World.block_lt_of_cell? w _ X)).trans X), ((g.1.cell (World.block_lt_of_cell? w _ W)).trans W), ((g.1.cell (World.block_lt_of_cell? w _ V)).trans V), ((g.1.cell (World.block_lt_of_cell? w _ U)).trans U)⟩ (fun i => ?_); refine with_tabW spec_ChainOk.tab4 spec_ChainOk.bits4 (fun d na => ?_)
      generalize wr.drew = Fb at b g da Ga l s t u T ea fa ga i ⊢
      refine p_ d ?_
      refine qw_ 2 (m_ 19 5) d ?_
      refine qt_ 1 (b_ 3 16) d na i ?_
      refine p_ d ?_
      refine t0_ d na i ?_
      refine o1_ 5 (b_ 6 13) d (fun K hK => ?_)
      refine gs_ Tryz.func108 #[.agg #[.slice Y ((rd_T29 c a).f0).length Z, .int .i64 ((rd_T29 c a).f1), .int .i64 ((rd_T29 c a).f2), .string ((rd_T29 c a).f3)]] ?_
      with_reducible refine (spec_AlarmOk.calls k1 _ _ ((rd_T29 c a).f0) ((rd_T29 c a).f1) ((rd_T29 c a).f2) ((rd_T29 c a).f3) true _ ?_ ?_ A7.1).mono ?_
      exact cp_ ((Kd.C_below da.1 g.1))
      exact Aa.1
      rintro e Gb ⟨rfl, hb⟩
      refine ⟨_, rfl, ?_⟩
      obtain ⟨b, g⟩ := u2_ hb b g
      (try clear hb)
      refine ho_ hK ⟨bx_ b.1 0, bx_ b.1 1, ((g.1.cell (World.block_lt_of_cell? w _ z)).trans z), ((g.1.cell (World.block_lt_of_cell? w _ y)).trans y), ((g.1.cell (World.block_lt_of_cell? w _ x)).trans x), ((g.1.cell (World.block_lt_of_cell? w _ v)).trans v), ((g.1.cell (World.block_lt_of_cell? w _ X)).trans X), ((g.1.cell (World.block_lt_of_cell? w _ W)).trans W), ((g.1.cell (World.block_lt_of_cell? w _ V)).trans V), ((g.1.cell (World.block_lt_of_cell? w _ U)).trans U)⟩ (fun i => ?_)
      iterate 3 refine p_ d ?_
      refine qw_ 10 (m_ 19 1535) d ?_
      refine qw_ 15 (m_ 19 34303) d ?_
      refine qt_ 9 (m_ 19 34815) d na i ?_
      refine qw_ 11 (m_ 19 36863) d ?_
      refine qw_ 12 (m_ 19 40959) d ?_
      refine qt_ 13 (m_ 19 49151) d na i ?_
      refine qt_ 16 (m_ 19 114687) d na i ?_
      refine o1_ 14 (b_ 17 2) d (fun K hK => ?_)
      refine gs_ Tryz.func60 #[.slice Y ((rd_T29 c a).f0).length Z] ?_
      with_reducible refine (spec_Finger.calls k1 _ _ ((rd_T29 c a).f0) Ta _ ?_ ?_ A9.1).mono ?_
      exact cp_ ((Kd.C_below Ga.1 g.1))
      exact Pa.1
      rintro e Hb ⟨rfl, hb⟩
      refine ⟨_, rfl, ?_⟩
      obtain ⟨b, g⟩ := u2_ hb b g
      (try clear hb)
      refine ho_ hK ⟨bx_ b.1 0, bx_ b.1 1, ((g.1.cell (World.block_lt_of_cell? w _ z)).trans z), ((g.1.cell (World.block_lt_of_cell? w _ y)).trans y), ((g.1.cell (World.block_lt_of_cell? w _ x)).trans x), ((g.1.cell (World.block_lt_of_cell? w _ v)).trans v), ((g.1.cell (World.block_lt_of_cell? w _ X)).trans X), ((g.1.cell (World.block_lt_of_cell? w _ W)).trans W), ((g.1.cell (World.block_lt_of_cell? w _ V)).trans V), ((g.1.cell (World.block_lt_of_cell? w _ U)).trans U)⟩ (fun i => ?_)
      iterate 2 refine p_ d ?_
      refine done_ (done_of d.1 (by kernel_rfl)) ?_
      try go_wp2
      go_meet
      case rel => exact ⟨_, ((Ta != aa)), rs_, H', ⟨by have := Oa.1; first | omega | exact Nat.le_refl _⟩, ⟨bq_ b.1⟩, ⟨hs_ g.1⟩⟩
     have H' := M_ H
     clear H
     try go_wp2
     obtain ⟨b, g⟩ := y2_ b g
     obtain ⟨ua, va⟩ : 0 ≤ (a : Int) ∧ a < (c.length : Int) := pq_
     obtain ⟨q, Y, Z, Ja, l, s, t, u, ba, ca⟩ := at_T29 ta.1 a ua va
     have v := u
     have x := t
     have y := s
     have z := l
     cases Ja
     replace l := c4_ g l s t u; clear s t u; obtain ⟨l, s, t, u⟩ := l
     have da := M_ ca
     have Aa := M_ ba
     clear ca ba
     replace ua := eq_true ua; replace va := eq_true va
     refine start_ (n := 19) (S := fun w' => c_ w' R 0 (.int .i64 aa) ∧ c_ w' R 1 (.slice (some q) c.length sa) ∧ w'.cell? (q.add ((a).toNat * 4)) = some (.slice Y ((rd_T29 c a).f0).length Z) ∧ d_ w' (q.add ((a).toNat * 4)) 1 (.int .i64 ((rd_T29 c a).f1)) ∧ d_ w' (q.add ((a).toNat * 4)) 2 (.int .i64 ((rd_T29 c a).f2)) ∧ d_ w' (q.add ((a).toNat * 4)) 3 (.string ((rd_T29 c a).f3))) (ds := []) (b_ 0 19) (by kernel_rfl) rfl rfl ⟨bx_ b.1 0, bx_ b.1 1, ((g.1.cell (World.block_lt_of_cell? w _ z)).trans z), ((g.1.cell (World.block_lt_of_cell? w _ y)).trans y), ((g.1.cell (World.block_lt_of_cell? w _ x)).trans x), ((g.1.cell (World.block_lt_of_cell? w _ v)).trans v)⟩ (fun i => ?_); refine with_tabW spec_ChainOk.tab4 spec_ChainOk.bits4 (fun d na => ?_)
     generalize wr.drew = Ib at b g da l s t u i ⊢
     refine p_ d ?_
     refine qw_ 2 (m_ 19 5) d ?_
     refine qt_ 1 (b_ 3 16) d na i ?_
     refine p_ d ?_
     refine t0_ d na i ?_
     refine o1_ 5 (b_ 6 13) d (fun K hK => ?_)
     refine gs_ Tryz.func108 #[.agg #[.slice Y ((rd_T29 c a).f0).length Z, .int .i64 ((rd_T29 c a).f1), .int .i64 ((rd_T29 c a).f2), .string ((rd_T29 c a).f3)]] ?_
     with_reducible refine (spec_AlarmOk.calls k1 _ _ ((rd_T29 c a).f0) ((rd_T29 c a).f1) ((rd_T29 c a).f2) ((rd_T29 c a).f3) false _ ?_ ?_ A7.1).mono ?_
     exact cp_ ((Kd.C_below da.1 g.1))
     exact Aa.1
     rintro e Jb ⟨rfl, hb⟩
     refine ⟨_, rfl, ?_⟩
     obtain ⟨b, g⟩ := u2_ hb b g
     (try clear hb)
     refine ho_ hK ⟨bx_ b.1 0, bx_ b.1 1, ((g.1.cell (World.block_lt_of_cell? w _ z)).trans z), ((g.1.cell (World.block_lt_of_cell? w _ y)).trans y), ((g.1.cell (World.block_lt_of_cell? w _ x)).trans x), ((g.1.cell (World.block_lt_of_cell? w _ v)).trans v)⟩ (fun i => ?_)
     iterate 2 refine p_ d ?_
     iterate 10 refine v_ d ?_
     refine p_ d ?_
     refine done_ (done_of d.1 (by kernel_rfl)) ?_
     try go_wp2
     go_meet
     case rel => exact ⟨_, (true), rs_, H', ⟨by have := Oa.1; first | omega | exact Nat.le_refl _⟩, ⟨bq_ b.1⟩, ⟨hs_ g.1⟩⟩
    case rest =>
     clear Za
     obtain ⟨kq, Ia, rfl, HA, HJ3, b, g⟩ := hcut
     cases kq with
     | zero => exact absurd HA.1 (by simp [spec_ChainOk.j1])
     | succ gb =>
      have H := HA.1
      clear HA
      simp only [spec_ChainOk.j1] at H
      replace H := ib_ H; rcases H with ⟨rfl, H⟩ | ⟨rfl, H⟩
      ·
       obtain rfl := Option.some.inj H
       go_wp2
       go_ret
       exact an_ (hs_ g.1)
      have H' := M_ H
      clear H
      go_wp2
      go_loopg [4] gb (fun kq v4 w' => ∃ (p : Int), v4 = .int .i64 p ∧ Aside0 (spec_ChainOk.l1 kq a p aa c = some r) ∧ Aside0 (kq ≤ gb) ∧ Aside0 (w'.heap[R]? = some (.cells #[.int .i64 aa, (.slice Da c.length sa)] 80 (0, 0))) ∧ Aside0 (Below w.heap.size w w'))
      case atStart => exact ⟨(0), rs_, H', ⟨Nat.le_refl _⟩, ⟨bq_ b.1⟩, ⟨hs_ g.1⟩⟩
      case round =>
       clear H'
       obtain ⟨p, rfl, HA, Xa, b, g⟩ := hrel
       cases gk with
       | zero => exact absurd HA.1 (by simp [spec_ChainOk.l1])
       | succ k3 =>
        have H := HA.1
        clear HA
        simp only [spec_ChainOk.l1] at H
        replace H := ie_ H; rcases H with ⟨Ua, H⟩ | ⟨Ua, H⟩
        ·
         have bb := decide_eq_true Ua
         clear Ua
         replace H := i2_ H; obtain ⟨pb, qb, H⟩ := H
         replace H := i2_ H; obtain ⟨rb, sb, H⟩ := H
         replace H := bi_ H; obtain ⟨tb, ib, H⟩ := H
         replace H := ib_ H; rcases H with ⟨rfl, H⟩ | ⟨rfl, H⟩
         ·
          obtain rfl := Option.some.inj H
          try go_wp2
          obtain ⟨b, g⟩ := y2_ b g
          obtain ⟨wa, xa⟩ : 0 ≤ (p : Int) ∧ p < (c.length : Int) := pq_
          obtain ⟨j, oa, pa, Ma, m, A, B, D, ha, ia⟩ := at_T29 ta.1 p wa xa
          have I := D
          have J := B
          have L := A
          have M := m
          cases Ma
          replace m := c4_ g m A B D; clear A B D; obtain ⟨m, A, B, D⟩ := m
          have ja := M_ ia
          have Ba := M_ ha
          clear ia ha
          replace wa := eq_true wa; replace xa := eq_true xa
          obtain ⟨ya, za⟩ : 0 ≤ (a : Int) ∧ a < (c.length : Int) := pq_
          obtain ⟨Ha, qa, ra, Na, o, E, F, G, ka, la⟩ := at_T29 ta.1 a ya za
          have N := G
          have O := F
          have P := E
          have Q := o
          obtain rfl : j = Ha := (by injection Na)
          replace o := c4_ g o E F G; clear E F G; obtain ⟨o, E, F, G⟩ := o
          have ma := M_ la
          have Ca := M_ ka
          clear la ka
          replace ya := eq_true ya; replace za := eq_true za
          refine start_ (n := 13) (S := fun w' => c_ w' R 0 (.int .i64 aa) ∧ c_ w' R 1 (.slice (some j) c.length sa) ∧ w'.cell? (j.add ((p).toNat * 4)) = some (.slice oa ((rd_T29 c p).f0).length pa) ∧ d_ w' (j.add ((p).toNat * 4)) 1 (.int .i64 ((rd_T29 c p).f1)) ∧ d_ w' (j.add ((p).toNat * 4)) 2 (.int .i64 ((rd_T29 c p).f2)) ∧ d_ w' (j.add ((p).toNat * 4)) 3 (.string ((rd_T29 c p).f3)) ∧ w'.cell? (j.add ((a).toNat * 4)) = some (.slice qa ((rd_T29 c a).f0).length ra) ∧ d_ w' (j.add ((a).toNat * 4)) 1 (.int .i64 ((rd_T29 c a).f1)) ∧ d_ w' (j.add ((a).toNat * 4)) 2 (.int .i64 ((rd_T29 c a).f2)) ∧ d_ w' (j.add ((a).toNat * 4)) 3 (.string ((rd_T29 c a).f3))) (ds := []) (b_ 0 13) (by kernel_rfl) rfl rfl ⟨bx_ b.1 0, bx_ b.1 1, ((g.1.cell (World.block_lt_of_cell? w _ M)).trans M), ((g.1.cell (World.block_lt_of_cell? w _ L)).trans L), ((g.1.cell (World.block_lt_of_cell? w _ J)).trans J), ((g.1.cell (World.block_lt_of_cell? w _ I)).trans I), ((g.1.cell (World.block_lt_of_cell? w _ Q)).trans Q), ((g.1.cell (World.block_lt_of_cell? w _ P)).trans P), ((g.1.cell (World.block_lt_of_cell? w _ O)).trans O), ((g.1.cell (World.block_lt_of_cell? w _ N)).trans N)⟩ (fun i => ?_); refine with_tabW spec_ChainOk.tab9 spec_ChainOk.bits9 (fun d na => ?_)
          generalize wr.drew = Lb at b g ja ma m A B D o E F G i ⊢
          refine p_ d ?_
          refine qw_ 2 (m_ 13 5) d ?_
          refine qw_ 6 (m_ 13 69) d ?_
          refine qw_ 8 (m_ 13 325) d ?_
          refine qt_ 1 (m_ 13 327) d na i ?_
          refine qw_ 3 (m_ 13 335) d ?_
          refine qw_ 4 (m_ 13 351) d ?_
          refine qt_ 5 (m_ 13 383) d na i ?_
          refine qt_ 7 (b_ 9 4) d na i ?_
          iterate 2 refine p_ d ?_
          refine t0_ d na i ?_
          refine o1_ 12 (b_ 13 0) d (fun K hK => ?_)
          refine gs_ Tryz.func102 #[.slice oa ((rd_T29 c p).f0).length pa, .slice qa ((rd_T29 c a).f0).length ra] ?_
          with_reducible refine (spec_SameSet.calls k3 _ _ ((rd_T29 c p).f0) _ _ ((rd_T29 c a).f0) true _ ?_ ?_ ?_ ?_ ib.1).mono ?_
          exact cp_ ((Kd.C_below ja.1 g.1))
          exact Ba.1
          exact cp_ ((Kd.C_below ma.1 g.1))
          exact Ca.1
          rintro e w' ⟨rfl, ⟨nd, rfl⟩⟩
          refine ⟨_, rfl, ?_⟩
          refine ho_ hK ⟨bx_ b.1 0, bx_ b.1 1, ((g.1.cell (World.block_lt_of_cell? w _ M)).trans M), ((g.1.cell (World.block_lt_of_cell? w _ L)).trans L), ((g.1.cell (World.block_lt_of_cell? w _ J)).trans J), ((g.1.cell (World.block_lt_of_cell? w _ I)).trans I), ((g.1.cell (World.block_lt_of_cell? w _ Q)).trans Q), ((g.1.cell (World.block_lt_of_cell? w _ P)).trans P), ((g.1.cell (World.block_lt_of_cell? w _ O)).trans O), ((g.1.cell (World.block_lt_of_cell? w _ N)).trans N)⟩ (fun i => ?_)
          refine done_ (done_of d.1 (by kernel_rfl)) ?_
          try go_wp2
          go_ret
          exact an_ (hs_ g.1)
         have H' := M_ H
         clear H
         try go_wp2
         obtain ⟨b, g⟩ := y2_ b g
         obtain ⟨wa, xa⟩ : 0 ≤ (p : Int) ∧ p < (c.length : Int) := pq_
         obtain ⟨j, oa, pa, Ma, m, A, B, D, ha, ia⟩ := at_T29 ta.1 p wa xa
         have I := D
         have J := B
         have L := A
         have M := m
         cases Ma
         replace m := c4_ g m A B D; clear A B D; obtain ⟨m, A, B, D⟩ := m
         have ja := M_ ia
         have Ba := M_ ha
         clear ia ha
         replace wa := eq_true wa; replace xa := eq_true xa
         obtain ⟨ya, za⟩ : 0 ≤ (a : Int) ∧ a < (c.length : Int) := pq_
         obtain ⟨Ha, qa, ra, Na, o, E, F, G, ka, la⟩ := at_T29 ta.1 a ya za
         have N := G
         have O := F
         have P := E
         have Q := o
         obtain rfl : j = Ha := (by injection Na)
         replace o := c4_ g o E F G; clear E F G; obtain ⟨o, E, F, G⟩ := o
         have ma := M_ la
         have Ca := M_ ka
         clear la ka
         replace ya := eq_true ya; replace za := eq_true za
         refine start_ (n := 13) (S := fun w' => c_ w' R 0 (.int .i64 aa) ∧ c_ w' R 1 (.slice (some j) c.length sa) ∧ w'.cell? (j.add ((p).toNat * 4)) = some (.slice oa ((rd_T29 c p).f0).length pa) ∧ d_ w' (j.add ((p).toNat * 4)) 1 (.int .i64 ((rd_T29 c p).f1)) ∧ d_ w' (j.add ((p).toNat * 4)) 2 (.int .i64 ((rd_T29 c p).f2)) ∧ d_ w' (j.add ((p).toNat * 4)) 3 (.string ((rd_T29 c p).f3)) ∧ w'.cell? (j.add ((a).toNat * 4)) = some (.slice qa ((rd_T29 c a).f0).length ra) ∧ d_ w' (j.add ((a).toNat * 4)) 1 (.int .i64 ((rd_T29 c a).f1)) ∧ d_ w' (j.add ((a).toNat * 4)) 2 (.int .i64 ((rd_T29 c a).f2)) ∧ d_ w' (j.add ((a).toNat * 4)) 3 (.string ((rd_T29 c a).f3))) (ds := []) (b_ 0 13) (by kernel_rfl) rfl rfl ⟨bx_ b.1 0, bx_ b.1 1, ((g.1.cell (World.block_lt_of_cell? w _ M)).trans M), ((g.1.cell (World.block_lt_of_cell? w _ L)).trans L), ((g.1.cell (World.block_lt_of_cell? w _ J)).trans J), ((g.1.cell (World.block_lt_of_cell? w _ I)).trans I), ((g.1.cell (World.block_lt_of_cell? w _ Q)).trans Q), ((g.1.cell (World.block_lt_of_cell? w _ P)).trans P), ((g.1.cell (World.block_lt_of_cell? w _ O)).trans O), ((g.1.cell (World.block_lt_of_cell? w _ N)).trans N)⟩ (fun i => ?_); refine with_tabW spec_ChainOk.tab9 spec_ChainOk.bits9 (fun d na => ?_)
         generalize wr.drew = Nb at b g ja ma m A B D o E F G i ⊢
         refine p_ d ?_
         refine qw_ 2 (m_ 13 5) d ?_
         refine qw_ 6 (m_ 13 69) d ?_
         refine qw_ 8 (m_ 13 325) d ?_
         refine qt_ 1 (m_ 13 327) d na i ?_
         refine qw_ 3 (m_ 13 335) d ?_
         refine qw_ 4 (m_ 13 351) d ?_
         refine qt_ 5 (m_ 13 383) d na i ?_
         refine qt_ 7 (b_ 9 4) d na i ?_
         iterate 2 refine p_ d ?_
         refine t0_ d na i ?_
         refine o1_ 12 (b_ 13 0) d (fun K hK => ?_)
         refine gs_ Tryz.func102 #[.slice oa ((rd_T29 c p).f0).length pa, .slice qa ((rd_T29 c a).f0).length ra] ?_
         with_reducible refine (spec_SameSet.calls k3 _ _ ((rd_T29 c p).f0) _ _ ((rd_T29 c a).f0) false _ ?_ ?_ ?_ ?_ ib.1).mono ?_
         exact cp_ ((Kd.C_below ja.1 g.1))
         exact Ba.1
         exact cp_ ((Kd.C_below ma.1 g.1))
         exact Ca.1
         rintro e w' ⟨rfl, ⟨nd, rfl⟩⟩
         refine ⟨_, rfl, ?_⟩
         refine ho_ hK ⟨bx_ b.1 0, bx_ b.1 1, ((g.1.cell (World.block_lt_of_cell? w _ M)).trans M), ((g.1.cell (World.block_lt_of_cell? w _ L)).trans L), ((g.1.cell (World.block_lt_of_cell? w _ J)).trans J), ((g.1.cell (World.block_lt_of_cell? w _ I)).trans I), ((g.1.cell (World.block_lt_of_cell? w _ Q)).trans Q), ((g.1.cell (World.block_lt_of_cell? w _ P)).trans P), ((g.1.cell (World.block_lt_of_cell? w _ O)).trans O), ((g.1.cell (World.block_lt_of_cell? w _ N)).trans N)⟩ (fun i => ?_)
         refine done_ (done_of d.1 (by kernel_rfl)) ?_
         try go_wp2
         go_roundg k3
         case measure => have := Oa.1; have := HJ3.1; have := Xa.1; omega
         case rel => exact ⟨(wrap64 (p + 1)), rs_, H', ⟨by have := Oa.1; have := HJ3.1; have := Xa.1; omega⟩, ⟨bq_ b.1⟩, ⟨hs_ g.1⟩⟩
        have bb : decide (p < a) = false := decide_eq_false Ua
        clear Ua
        have H' := M_ H
        clear H
        go_wp2
        go_roundg k3
        case measure => have := Oa.1; have := HJ3.1; have := Xa.1; omega
        case rel => exact ⟨(wrap64 (a + 1)), rs_, H', ⟨by have := Oa.1; have := HJ3.1; have := Xa.1; omega⟩, ⟨bq_ b.1⟩, ⟨hs_ g.1⟩⟩
   have db : decide (a < (c.length : Int)) = false := decide_eq_false c3
   clear c3
   obtain rfl := Option.some.inj H
   obtain ⟨ub, vb, wb, xb⟩ := bc2_ b.1
   go_wp2
   go_ret
   exact an_ (hs_ g.1)
def spec_PartOk.l0 : Nat → Int → Int → Int → Int → Int → List (S80) → Option (Bool)
 | 0, _, _, _, _, _, _ => none
 | k + 1, j, l, d, b, c, a => if d < (a.length : Int) then (if 0 ≤ d then ((spec_ChainOk.f k ((rd_T80 a d).f0) ((rd_T80 a d).f1)).bind fun e => (if e = true then (if d > 0 then (if 0 ≤ (wrap64 (d - 1)) then (if (wrap64 (d - 1)) < (a.length : Int) then (if ((rd_T80 a (wrap64 (d - 1))).f0) ≥ ((rd_T80 a d).f0) then (some false) else ((spec_PartOf.f ((rd_T80 a d).f0) l).bind fun g => (if g = j then (spec_PartOk.l0 k j l (wrap64 (d + 1)) b c a) else (some false)))) else (none)) else (none)) else ((spec_PartOf.f ((rd_T80 a d).f0) l).bind fun h => (if h = j then (spec_PartOk.l0 k j l (wrap64 (d + 1)) b c a) else (some false)))) else (some false))) else (none)) else ((spec_l1In.f b (-1) 4).bind fun i => (if i = true then (some (decide (c ≥ 0))) else (some false)))
def spec_PartOk.f (k : Nat) (a : Int) (b : Int) (c : List (S80)) (d : Int) (e : Int) : Option (Bool) := spec_PartOk.l0 k d e 0 a b c
def spec_PartOk.T4 : Bool × List (List Nat × List Nat) := (true, [([], []), ([0], [0]), ([], []), ([1, 2], [1, 2]), ([3], [3]), ([4], [4]), ([5], [5]), ([6, 5], [6]), ([7], [7]), ([8, 7], [7, 8]), ([9, 7, 7], [7, 9]), ([10], [10]), ([11, 10], [10, 11]), ([10], [10]), ([13, 10], [10, 13]), ([12, 14, 10], [10, 12, 14]), ([15, 10], [10, 15]), ([16, 10], [10, 16]), ([10], [10]), ([18, 10], [10, 18]), ([10], [10]), ([19, 20, 10], [10, 19, 20]), ([21, 10], [10, 21]), ([22, 10], [10, 22]), ([17, 23, 10], [10, 17, 23]), ([10, 24, 7], [7, 10, 24]), ([7, 25], [7, 25]), ([26, 10], [26]), ([27], [27]), ([28, 27], [27, 28]), ([27], [27]), ([29, 30, 27], [27, 29, 30]), ([31, 27], [27, 31]), ([32, 27], [27, 32]), ([27], [27]), ([33, 34, 27, 27], [27, 33, 34]), ([27], [27]), ([35, 36, 27], [27, 35, 36]), ([27, 37], [27, 37])])
def spec_PartOk.B4 : List Nat := [0, 1, 0, 7, 15, 31, 63, 127, 255, 511, 1023, 2047, 4095, 2047, 10239, 32767, 65535, 131071, 2047, 264191, 2047, 1837055, 3934207, 8128511, 16777215, 33554431, 67108863, 134217727, 268435455, 536870911, 268435455, 2147483647, 4294967295, 8589934591, 268435455, 34359738367, 268435455, 137438953471, 274877906943]
theorem spec_PartOk.tab4 : rtab .any (opsOf Tryz.f22 4) = spec_PartOk.T4 := by kernel_rfl
theorem spec_PartOk.bits4 : waitsOk spec_PartOk.T4.2 spec_PartOk.B4 = true := by kernel_rfl
theorem spec_PartOk.calls (k : Nat) (R : Int) (U : Int) (Ea : Option Addr) (X : Nat) (c : List (S80)) (a1 : Int) (a2 : Int) (r : Bool) (w : World) (Ka : Kd.C k80 w Ea c.length c) (La : c.length ≤ X) (h : spec_PartOk.f k R U c a1 a2 = some r) :
  Calls Tryz.prog 22 #[.agg #[.int .i64 R, .int .i64 U, .slice Ea c.length X], .int .i64 a1, .int .i64 a2] w fun e w' => e = .returned (.bool r) ∧ Below w.heap.size w w' := by
 have hu26 := Tryz.underlying26
 have hu80 := Tryz.underlying80
 have Y := M_ Ka
 have sb := M_ La
 clear Ka La
 have m := M_ (Below.refl w.heap.size w)
 unfold spec_PartOk.f at h
 have H := h; clear h
 have H' := M_ H
 clear H
 go_enter Tryz.func22, Tryz.ntmps22
 go_wp2_with (first | ((with_reducible refine gd_ 3 rfl ?_); refine bV_ 3 #[.int .i64 R, .int .i64 U, .slice Ea c.length X] 26 ?_; intro t hg w4 a hb; have qb := gq_ hg m; replace m := st_ m hb; clear hb hg))
 go_loopg [7] k (fun kq v7 w' => ∃ (b : Int), v7 = .int .i64 b ∧ Aside0 (spec_PartOk.l0 kq a1 a2 b R U c = some r) ∧ Aside0 (kq ≤ k) ∧ Aside0 (w'.heap[t]? = some (.cells #[.int .i64 R, .int .i64 U, (.slice Ea c.length X)] 26 (0, 0))) ∧ Aside0 (Below w.heap.size w w'))
 case atStart => exact ⟨(0), rs_, H', ⟨Nat.le_refl _⟩, ⟨bq_ a.1⟩, ⟨hs_ m.1⟩⟩
 case round =>
  clear H'
  obtain ⟨b, rfl, HA, Ra, a, m⟩ := hrel
  cases gk with
  | zero => exact absurd HA.1 (by simp [spec_PartOk.l0])
  | succ k1 =>
   have H := HA.1
   clear HA
   simp only [spec_PartOk.l0] at H
   replace H := ie_ H; rcases H with ⟨c5, H⟩ | ⟨c5, H⟩
   ·
    have kb := decide_eq_true c5
    clear c5
    replace H := id_ H; obtain ⟨Mb, H⟩ := H
    replace H := bi_ H; obtain ⟨ub, A7, H⟩ := H
    have AHz_ := M_ H
    clear H
    obtain ⟨vb, wb, xb, yb, zb, Ab⟩ := bc3_ a.1
    try go_wp2
    obtain ⟨a, m⟩ := y2_ a m
    obtain ⟨qa, ra⟩ : 0 ≤ (b : Int) ∧ b < (c.length : Int) := pq_
    obtain ⟨j, B, D, Xa, u, v, ca, da⟩ := at_T80 Y.1 b qa ra
    have g := v
    have i := u
    cases Xa
    replace u := c2_ m u v; clear v; obtain ⟨u, v⟩ := u
    have x := M_ da
    have T := M_ ca
    clear da ca
    replace qa := eq_true qa; replace ra := eq_true ra
    have H := AHz_.1
    clear AHz_
    replace H := ib_ H; rcases H with ⟨rfl, H⟩ | ⟨rfl, H⟩
    ·
     replace H := ie_ H; rcases H with ⟨c9, H⟩ | ⟨c9, H⟩
     ·
      have nb : decide (0 < b) = true := decide_eq_true c9
      clear c9
      obtain ⟨E, W⟩ : ∃ j_ : Int, (wrap64 (b - 1)) = j_ := ⟨_, rfl⟩
      replace H : (if 0 ≤ (E) then (if (E) < (c.length : Int) then (if ((rd_T80 c (E)).f0) ≥ ((rd_T80 c b).f0) then (some false) else ((spec_PartOf.f ((rd_T80 c b).f0) a2).bind fun V => (if V = a1 then (spec_PartOk.l0 k1 a1 a2 (wrap64 (b + 1)) R U c) else (some false)))) else (none)) else (none)) = some r := by first | (rw [W] at H; exact H) | (simp only [W] at H ⊢; exact H)
      (try rw [W] at A7)
      have rb : (IntKind.i64.wrap (b - 1)) = E := (i64_w _).trans W
      replace H := i2_ H; obtain ⟨Bb, Cb, H⟩ := H
      have AHz_ := M_ H
      clear H
      obtain ⟨sa, ta⟩ : 0 ≤ ((E) : Int) ∧ (E) < (c.length : Int) := pq_
      obtain ⟨Sa, oa, pa, Ya, y, F, ea, fa⟩ := at_T80 Y.1 (E) sa ta
      have o := F
      have p := y
      obtain rfl : j = Sa := (by injection Ya)
      replace y := c2_ m y F; clear F; obtain ⟨y, F⟩ := y
      have ga := M_ fa
      have eb := M_ ea
      clear fa ea
      replace sa := eq_true sa; replace ta := eq_true ta
      obtain ⟨ua, va⟩ : 0 ≤ (b : Int) ∧ b < (c.length : Int) := pq_
      obtain ⟨Ta, Z, aa, Za, z, A, ha, ia⟩ := at_T80 Y.1 b ua va
      have q := A
      have s := z
      obtain rfl : j = Ta := (by injection Za)
      replace z := c2_ m z A; clear A; obtain ⟨z, A⟩ := z
      have ja := M_ ia
      have fb := M_ ha
      clear ia ha
      replace ua := eq_true ua; replace va := eq_true va
      have H := AHz_.1
      clear AHz_
      replace H := ie_ H; rcases H with ⟨Ma, H⟩ | ⟨Ma, H⟩
      ·
       have ab : decide (((rd_T80 c b).f0) ≤ ((rd_T80 c (E)).f0)) = true := decide_eq_true Ma
       clear Ma
       obtain rfl := Option.some.inj H
       refine start_ (n := 39) (S := fun w' => c_ w' t 0 (.int .i64 R) ∧ c_ w' t 1 (.int .i64 U) ∧ c_ w' t 2 (.slice (some j) c.length X) ∧ w'.cell? (j.add ((b).toNat * 2)) = some (.int .i64 ((rd_T80 c b).f0)) ∧ d_ w' (j.add ((b).toNat * 2)) 1 (.slice B ((rd_T80 c b).f1).length D) ∧ w'.cell? (j.add (((E)).toNat * 2)) = some (.int .i64 ((rd_T80 c (E)).f0)) ∧ d_ w' (j.add (((E)).toNat * 2)) 1 (.slice oa ((rd_T80 c (E)).f1).length pa) ∧ w'.cell? (j.add ((b).toNat * 2)) = some (.int .i64 ((rd_T80 c b).f0)) ∧ d_ w' (j.add ((b).toNat * 2)) 1 (.slice Z ((rd_T80 c b).f1).length aa)) (ds := []) (b_ 0 39) (by kernel_rfl) rfl rfl ⟨bx_ a.1 0, bx_ a.1 1, bx_ a.1 2, ((m.1.cell (World.block_lt_of_cell? w _ i)).trans i), ((m.1.cell (World.block_lt_of_cell? w _ g)).trans g), ((m.1.cell (World.block_lt_of_cell? w _ p)).trans p), ((m.1.cell (World.block_lt_of_cell? w _ o)).trans o), ((m.1.cell (World.block_lt_of_cell? w _ s)).trans s), ((m.1.cell (World.block_lt_of_cell? w _ q)).trans q)⟩ (fun l => ?_); refine with_tabW spec_PartOk.tab4 spec_PartOk.bits4 (fun d P => ?_)
       generalize wr.drew = Pb at a m x ga ja u v y F z A l ⊢
       refine p_ d ?_
       refine qw_ 2 (m_ 39 5) d ?_
       refine qt_ 1 (b_ 3 36) d P l ?_
       refine p_ d ?_
       refine t0_ d P l ?_
       refine o1_ 5 (b_ 6 33) d (fun K hK => ?_)
       refine gs_ Tryz.func76 #[.agg #[.int .i64 ((rd_T80 c b).f0), .slice B ((rd_T80 c b).f1).length D]] ?_
       with_reducible refine (spec_ChainOk.calls k1 ((rd_T80 c b).f0) _ _ ((rd_T80 c b).f1) true _ ?_ ?_ A7.1).mono ?_
       exact cp_ ((Kd.C_below x.1 m.1))
       exact T.1
       rintro e Qb ⟨rfl, hb⟩
       refine ⟨_, rfl, ?_⟩
       obtain ⟨a, m⟩ := u2_ hb a m
       (try clear hb)
       refine ho_ hK ⟨bx_ a.1 0, bx_ a.1 1, bx_ a.1 2, ((m.1.cell (World.block_lt_of_cell? w _ i)).trans i), ((m.1.cell (World.block_lt_of_cell? w _ g)).trans g), ((m.1.cell (World.block_lt_of_cell? w _ p)).trans p), ((m.1.cell (World.block_lt_of_cell? w _ o)).trans o), ((m.1.cell (World.block_lt_of_cell? w _ s)).trans s), ((m.1.cell (World.block_lt_of_cell? w _ q)).trans q)⟩ (fun l => ?_)
       iterate 6 refine p_ d ?_
       refine qw_ 13 (m_ 39 12287) d ?_
       refine qw_ 14 (m_ 39 28671) d ?_
       refine qw_ 18 (m_ 39 290815) d ?_
       refine qw_ 20 (m_ 39 1339391) d ?_
       refine qt_ 12 (m_ 39 1343487) d P l ?_
       refine qw_ 15 (m_ 39 1376255) d ?_
       refine qw_ 16 (m_ 39 1441791) d ?_
       refine qt_ 17 (m_ 39 1572863) d P l ?_
       refine qt_ 19 (b_ 21 18) d P l ?_
       iterate 2 refine p_ d ?_
       refine t0_ d P l ?_
       iterate 4 refine p_ d ?_
       iterate 10 refine v_ d ?_
       refine p_ d ?_
       refine done_ (done_of d.1 (by kernel_rfl)) ?_
       try go_wp2
       go_ret
       exact ⟨by first | rfl | (simp [errW_none, errW_some] <;> rfl) | (simp only [← W]; first | rfl | (simp [errW_none, errW_some] <;> rfl)) | (simp [*, errW_none, errW_some] <;> rfl), hs_ m.1⟩
      have ab : decide (((rd_T80 c b).f0) ≤ ((rd_T80 c (E)).f0)) = false := decide_eq_false Ma
      clear Ma
      replace H := bi_ H; obtain ⟨V, Db, H⟩ := H
      have AHz_ := M_ H
      clear H
      obtain ⟨wa, xa⟩ : 0 ≤ (b : Int) ∧ b < (c.length : Int) := pq_
      obtain ⟨Ua, ob, pb, bb, G, I, ka, la⟩ := at_T80 Y.1 b wa xa
      have J := I
      have L := G
      obtain rfl : j = Ua := (by injection bb)
      replace G := c2_ m G I; clear I; obtain ⟨G, I⟩ := G
      have Ga := M_ la
      have gb := M_ ka
      clear la ka
      replace wa := eq_true wa; replace xa := eq_true xa
      have ea_ := Option.some.inj (A.symm.trans I)
      injection ea_ with ea_ en_ ec_
      subst ea_
      subst ec_
      clear en_
      refine start_ (n := 39) (S := fun w' => c_ w' t 0 (.int .i64 R) ∧ c_ w' t 1 (.int .i64 U) ∧ c_ w' t 2 (.slice (some j) c.length X) ∧ w'.cell? (j.add ((b).toNat * 2)) = some (.int .i64 ((rd_T80 c b).f0)) ∧ d_ w' (j.add ((b).toNat * 2)) 1 (.slice B ((rd_T80 c b).f1).length D) ∧ w'.cell? (j.add (((E)).toNat * 2)) = some (.int .i64 ((rd_T80 c (E)).f0)) ∧ d_ w' (j.add (((E)).toNat * 2)) 1 (.slice oa ((rd_T80 c (E)).f1).length pa) ∧ w'.cell? (j.add ((b).toNat * 2)) = some (.int .i64 ((rd_T80 c b).f0)) ∧ d_ w' (j.add ((b).toNat * 2)) 1 (.slice Z ((rd_T80 c b).f1).length aa) ∧ w'.cell? (j.add ((b).toNat * 2)) = some (.int .i64 ((rd_T80 c b).f0)) ∧ d_ w' (j.add ((b).toNat * 2)) 1 (.slice Z ((rd_T80 c b).f1).length aa)) (ds := []) (b_ 0 39) (by kernel_rfl) rfl rfl ⟨bx_ a.1 0, bx_ a.1 1, bx_ a.1 2, ((m.1.cell (World.block_lt_of_cell? w _ i)).trans i), ((m.1.cell (World.block_lt_of_cell? w _ g)).trans g), ((m.1.cell (World.block_lt_of_cell? w _ p)).trans p), ((m.1.cell (World.block_lt_of_cell? w _ o)).trans o), ((m.1.cell (World.block_lt_of_cell? w _ s)).trans s), ((m.1.cell (World.block_lt_of_cell? w _ q)).trans q), ((m.1.cell (World.block_lt_of_cell? w _ L)).trans L), ((m.1.cell (World.block_lt_of_cell? w _ J)).trans J)⟩ (fun l => ?_); refine with_tabW spec_PartOk.tab4 spec_PartOk.bits4 (fun d P => ?_)
      generalize wr.drew = Rb at a m x ga ja Ga u v y F z A G I l ⊢
      refine p_ d ?_
      refine qw_ 2 (m_ 39 5) d ?_
      refine qt_ 1 (b_ 3 36) d P l ?_
      refine p_ d ?_
      refine t0_ d P l ?_
      refine o1_ 5 (b_ 6 33) d (fun K hK => ?_)
      refine gs_ Tryz.func76 #[.agg #[.int .i64 ((rd_T80 c b).f0), .slice B ((rd_T80 c b).f1).length D]] ?_
      with_reducible refine (spec_ChainOk.calls k1 ((rd_T80 c b).f0) _ _ ((rd_T80 c b).f1) true _ ?_ ?_ A7.1).mono ?_
      exact cp_ ((Kd.C_below x.1 m.1))
      exact T.1
      rintro e Sb ⟨rfl, hb⟩
      refine ⟨_, rfl, ?_⟩
      obtain ⟨a, m⟩ := u2_ hb a m
      (try clear hb)
      refine ho_ hK ⟨bx_ a.1 0, bx_ a.1 1, bx_ a.1 2, ((m.1.cell (World.block_lt_of_cell? w _ i)).trans i), ((m.1.cell (World.block_lt_of_cell? w _ g)).trans g), ((m.1.cell (World.block_lt_of_cell? w _ p)).trans p), ((m.1.cell (World.block_lt_of_cell? w _ o)).trans o), ((m.1.cell (World.block_lt_of_cell? w _ s)).trans s), ((m.1.cell (World.block_lt_of_cell? w _ q)).trans q), ((m.1.cell (World.block_lt_of_cell? w _ L)).trans L), ((m.1.cell (World.block_lt_of_cell? w _ J)).trans J)⟩ (fun l => ?_)
      iterate 6 refine p_ d ?_
      refine qw_ 13 (m_ 39 12287) d ?_
      refine qw_ 14 (m_ 39 28671) d ?_
      refine qw_ 18 (m_ 39 290815) d ?_
      refine qw_ 20 (m_ 39 1339391) d ?_
      refine qt_ 12 (m_ 39 1343487) d P l ?_
      refine qw_ 15 (m_ 39 1376255) d ?_
      refine qw_ 16 (m_ 39 1441791) d ?_
      refine qt_ 17 (m_ 39 1572863) d P l ?_
      refine qt_ 19 (b_ 21 18) d P l ?_
      iterate 2 refine p_ d ?_
      refine t0_ d P l ?_
      iterate 5 refine p_ d ?_
      refine qw_ 30 (m_ 39 1610612735) d ?_
      refine qw_ 34 (m_ 39 18790481919) d ?_
      refine qw_ 36 (m_ 39 87509958655) d ?_
      refine qt_ 29 (m_ 39 88046829567) d P l ?_
      refine qw_ 31 (m_ 39 90194313215) d ?_
      refine qw_ 32 (m_ 39 94489280511) d ?_
      refine qt_ 33 (m_ 39 103079215103) d P l ?_
      refine o1_ 35 (b_ 37 2) d (fun K hK => ?_)
      refine gs_ Tryz.func77 #[.int .i64 ((rd_T80 c b).f0), .int .i64 a2] ?_
      with_reducible refine (spec_PartOf.calls ((rd_T80 c b).f0) a2 V _ Db.1).mono ?_
      rintro e w' ⟨rfl, ⟨nd, rfl⟩⟩
      refine ⟨_, rfl, ?_⟩
      refine ho_ hK ⟨bx_ a.1 0, bx_ a.1 1, bx_ a.1 2, ((m.1.cell (World.block_lt_of_cell? w _ i)).trans i), ((m.1.cell (World.block_lt_of_cell? w _ g)).trans g), ((m.1.cell (World.block_lt_of_cell? w _ p)).trans p), ((m.1.cell (World.block_lt_of_cell? w _ o)).trans o), ((m.1.cell (World.block_lt_of_cell? w _ s)).trans s), ((m.1.cell (World.block_lt_of_cell? w _ q)).trans q), ((m.1.cell (World.block_lt_of_cell? w _ L)).trans L), ((m.1.cell (World.block_lt_of_cell? w _ J)).trans J)⟩ (fun l => ?_)
      iterate 2 refine p_ d ?_
      have H := AHz_.1
      clear AHz_
      replace H := ie_ H; rcases H with ⟨Ha, H⟩ | ⟨Ha, H⟩
      ·
       have ya : (V == a1) = true := beq_iff_eq.mpr Ha
       have za : (V != a1) = false := bne_eq_false_iff_eq.mpr Ha
       clear Ha
       have H' := M_ H
       clear H
       (try simp only [ya, za])
       refine done_ (done_of d.1 (by kernel_rfl)) ?_
       try go_wp2
       go_roundg k1
       case measure => have := Ra.1; omega
       case rel => exact ⟨(wrap64 (b + 1)), rs_, H', ⟨by have := Ra.1; omega⟩, ⟨bq_ a.1⟩, ⟨hs_ m.1⟩⟩
      have ya : (V == a1) = false := beq_eq_false_iff_ne.mpr Ha
      have za : (V != a1) = true := bne_iff_ne.mpr Ha
      obtain rfl := Option.some.inj H
      (try simp only [ya, za])
      refine done_ (done_of d.1 (by kernel_rfl)) ?_
      try go_wp2
      go_ret
      exact ⟨by first | rfl | (simp [errW_none, errW_some] <;> rfl) | (simp only [← W]; first | rfl | (simp [errW_none, errW_some] <;> rfl)) | (simp [*, errW_none, errW_some] <;> rfl), hs_ m.1⟩
     have nb : decide (0 < b) = false := decide_eq_false c9
     clear c9
     replace H := bi_ H; obtain ⟨ba, Eb, H⟩ := H
     have AHz_ := M_ H
     clear H
     obtain ⟨Aa, Ba⟩ : 0 ≤ (b : Int) ∧ b < (c.length : Int) := pq_
     obtain ⟨Va, Oa, Pa, cb, M, Q, ma, na⟩ := at_T80 Y.1 b Aa Ba
     have N := Q
     have O := M
     obtain rfl : j = Va := (by injection cb)
     replace M := c2_ m M Q; clear Q; obtain ⟨M, Q⟩ := M
     have Ia := M_ na
     have ib := M_ ma
     clear na ma
     replace Aa := eq_true Aa; replace Ba := eq_true Ba
     refine start_ (n := 39) (S := fun w' => c_ w' t 0 (.int .i64 R) ∧ c_ w' t 1 (.int .i64 U) ∧ c_ w' t 2 (.slice (some j) c.length X) ∧ w'.cell? (j.add ((b).toNat * 2)) = some (.int .i64 ((rd_T80 c b).f0)) ∧ d_ w' (j.add ((b).toNat * 2)) 1 (.slice B ((rd_T80 c b).f1).length D) ∧ w'.cell? (j.add ((b).toNat * 2)) = some (.int .i64 ((rd_T80 c b).f0)) ∧ d_ w' (j.add ((b).toNat * 2)) 1 (.slice Oa ((rd_T80 c b).f1).length Pa)) (ds := []) (b_ 0 39) (by kernel_rfl) rfl rfl ⟨bx_ a.1 0, bx_ a.1 1, bx_ a.1 2, ((m.1.cell (World.block_lt_of_cell? w _ i)).trans i), ((m.1.cell (World.block_lt_of_cell? w _ g)).trans g), ((m.1.cell (World.block_lt_of_cell? w _ O)).trans O), ((m.1.cell (World.block_lt_of_cell? w _ N)).trans N)⟩ (fun l => ?_); refine with_tabW spec_PartOk.tab4 spec_PartOk.bits4 (fun d P => ?_)
     generalize wr.drew = Tb at a m x Ia u v M Q l ⊢
     refine p_ d ?_
     refine qw_ 2 (m_ 39 5) d ?_
     refine qt_ 1 (b_ 3 36) d P l ?_
     refine p_ d ?_
     refine t0_ d P l ?_
     refine o1_ 5 (b_ 6 33) d (fun K hK => ?_)
     refine gs_ Tryz.func76 #[.agg #[.int .i64 ((rd_T80 c b).f0), .slice B ((rd_T80 c b).f1).length D]] ?_
     with_reducible refine (spec_ChainOk.calls k1 ((rd_T80 c b).f0) _ _ ((rd_T80 c b).f1) true _ ?_ ?_ A7.1).mono ?_
     exact cp_ ((Kd.C_below x.1 m.1))
     exact T.1
     rintro e Ub ⟨rfl, hb⟩
     refine ⟨_, rfl, ?_⟩
     obtain ⟨a, m⟩ := u2_ hb a m
     (try clear hb)
     refine ho_ hK ⟨bx_ a.1 0, bx_ a.1 1, bx_ a.1 2, ((m.1.cell (World.block_lt_of_cell? w _ i)).trans i), ((m.1.cell (World.block_lt_of_cell? w _ g)).trans g), ((m.1.cell (World.block_lt_of_cell? w _ O)).trans O), ((m.1.cell (World.block_lt_of_cell? w _ N)).trans N)⟩ (fun l => ?_)
     iterate 5 refine p_ d ?_
     iterate 14 refine v_ d ?_
     iterate 4 refine p_ d ?_
     refine qw_ 30 (m_ 39 1610612735) d ?_
     refine qw_ 34 (m_ 39 18790481919) d ?_
     refine qw_ 36 (m_ 39 87509958655) d ?_
     refine qt_ 29 (m_ 39 88046829567) d P l ?_
     refine qw_ 31 (m_ 39 90194313215) d ?_
     refine qw_ 32 (m_ 39 94489280511) d ?_
     refine qt_ 33 (m_ 39 103079215103) d P l ?_
     refine o1_ 35 (b_ 37 2) d (fun K hK => ?_)
     refine gs_ Tryz.func77 #[.int .i64 ((rd_T80 c b).f0), .int .i64 a2] ?_
     with_reducible refine (spec_PartOf.calls ((rd_T80 c b).f0) a2 ba _ Eb.1).mono ?_
     rintro e w' ⟨rfl, ⟨nd, rfl⟩⟩
     refine ⟨_, rfl, ?_⟩
     refine ho_ hK ⟨bx_ a.1 0, bx_ a.1 1, bx_ a.1 2, ((m.1.cell (World.block_lt_of_cell? w _ i)).trans i), ((m.1.cell (World.block_lt_of_cell? w _ g)).trans g), ((m.1.cell (World.block_lt_of_cell? w _ O)).trans O), ((m.1.cell (World.block_lt_of_cell? w _ N)).trans N)⟩ (fun l => ?_)
     iterate 2 refine p_ d ?_
     have H := AHz_.1
     clear AHz_
     replace H := ie_ H; rcases H with ⟨Ja, H⟩ | ⟨Ja, H⟩
     ·
      have Ca : (ba == a1) = true := beq_iff_eq.mpr Ja
      have Da : (ba != a1) = false := bne_eq_false_iff_eq.mpr Ja
      clear Ja
      have H' := M_ H
      clear H
      (try simp only [Ca, Da])
      refine done_ (done_of d.1 (by kernel_rfl)) ?_
      try go_wp2
      go_roundg k1
      case measure => have := Ra.1; omega
      case rel => exact ⟨(wrap64 (b + 1)), rs_, H', ⟨by have := Ra.1; omega⟩, ⟨bq_ a.1⟩, ⟨hs_ m.1⟩⟩
     have Ca : (ba == a1) = false := beq_eq_false_iff_ne.mpr Ja
     have Da : (ba != a1) = true := bne_iff_ne.mpr Ja
     obtain rfl := Option.some.inj H
     (try simp only [Ca, Da])
     refine done_ (done_of d.1 (by kernel_rfl)) ?_
     try go_wp2
     go_ret
     exact an_ (hs_ m.1)
    obtain rfl := Option.some.inj H
    refine start_ (n := 39) (S := fun w' => c_ w' t 0 (.int .i64 R) ∧ c_ w' t 1 (.int .i64 U) ∧ c_ w' t 2 (.slice (some j) c.length X) ∧ w'.cell? (j.add ((b).toNat * 2)) = some (.int .i64 ((rd_T80 c b).f0)) ∧ d_ w' (j.add ((b).toNat * 2)) 1 (.slice B ((rd_T80 c b).f1).length D)) (ds := []) (b_ 0 39) (by kernel_rfl) rfl rfl ⟨bx_ a.1 0, bx_ a.1 1, bx_ a.1 2, ((m.1.cell (World.block_lt_of_cell? w _ i)).trans i), ((m.1.cell (World.block_lt_of_cell? w _ g)).trans g)⟩ (fun l => ?_); refine with_tabW spec_PartOk.tab4 spec_PartOk.bits4 (fun d P => ?_)
    generalize wr.drew = Vb at a m x u v l ⊢
    refine p_ d ?_
    refine qw_ 2 (m_ 39 5) d ?_
    refine qt_ 1 (b_ 3 36) d P l ?_
    refine p_ d ?_
    refine t0_ d P l ?_
    refine o1_ 5 (b_ 6 33) d (fun K hK => ?_)
    refine gs_ Tryz.func76 #[.agg #[.int .i64 ((rd_T80 c b).f0), .slice B ((rd_T80 c b).f1).length D]] ?_
    with_reducible refine (spec_ChainOk.calls k1 ((rd_T80 c b).f0) _ _ ((rd_T80 c b).f1) false _ ?_ ?_ A7.1).mono ?_
    exact cp_ ((Kd.C_below x.1 m.1))
    exact T.1
    rintro e Wb ⟨rfl, hb⟩
    refine ⟨_, rfl, ?_⟩
    obtain ⟨a, m⟩ := u2_ hb a m
    (try clear hb)
    refine ho_ hK ⟨bx_ a.1 0, bx_ a.1 1, bx_ a.1 2, ((m.1.cell (World.block_lt_of_cell? w _ i)).trans i), ((m.1.cell (World.block_lt_of_cell? w _ g)).trans g)⟩ (fun l => ?_)
    iterate 2 refine p_ d ?_
    iterate 18 refine v_ d ?_
    iterate 2 refine p_ d ?_
    iterate 10 refine v_ d ?_
    refine p_ d ?_
    refine done_ (done_of d.1 (by kernel_rfl)) ?_
    try go_wp2
    go_ret
    exact an_ (hs_ m.1)
   have kb : decide (b < (c.length : Int)) = false := decide_eq_false c5
   clear c5
   replace H := bi_ H; obtain ⟨db, Fb, H⟩ := H
   have AHz_ := M_ H
   clear H
   obtain ⟨Gb, Hb, Ib, Jb, Kb, Lb⟩ := bc3_ a.1
   go_wp2_with (first | (((with_reducible refine gate_callee (f := 78) rfl ?_); refine gl_ (some 56) Tryz.func78 #[.int .i64 R, .int .i64 (-1), .int .i64 4] ?_; (with_reducible refine (spec_l1In.calls R (-1) 4 db _ Fb.1).mono ?_); rintro e w' ⟨rfl, ⟨nd, rfl⟩⟩; refine ⟨_, rfl, ?_⟩); refine Aside0.out ?_))
   have H := AHz_.1
   clear AHz_
   replace H := ib_ H; rcases H with ⟨rfl, H⟩ | ⟨rfl, H⟩
   ·
    obtain rfl := Option.some.inj H
    refine ⟨?_⟩
    go_wp2
    go_ret
    exact an_ (hs_ m.1)
   obtain rfl := Option.some.inj H
   refine ⟨?_⟩
   go_wp2
   go_ret
   exact an_ (hs_ m.1)
def spec_SameAlarm.f (k : Nat) (b : List (S99)) (c : Int) (d : Int) (e : ByteArray) (g : List (S99)) (h : Int) (i : Int) (j : ByteArray) : Option (Bool) := (spec_SameSet.f k b g).bind fun a => (if a = true then (if c = h then (if d = i then (some (e.toList == j.toList)) else (some false)) else (some false)) else (some false))
theorem spec_SameAlarm.calls (k : Nat) (m : Option Addr) (n : Nat) (a : List (S99)) (c : Int) (d : Int) (s : ByteArray) (o : Option Addr) (p : Nat) (b : List (S99)) (g : Int) (i : Int) (t : ByteArray) (r : Bool) (w : World) (u : Kd.C k99 w m a.length a) (v : a.length ≤ n) (x : Kd.C k99 w o b.length b) (y : b.length ≤ p) (h : spec_SameAlarm.f k a c d s b g i t = some r) :
  Calls Tryz.prog 123 #[.agg #[.slice m a.length n, .int .i64 c, .int .i64 d, .string s], .agg #[.slice o b.length p, .int .i64 g, .int .i64 i, .string t]] w fun e w' => e = .returned (.bool r) ∧ Below w.heap.size w w' := by
 have hu29 := Tryz.underlying29
 have B := M_ u
 have D := M_ v
 clear u v
 have E := M_ x
 have F := M_ y
 clear x y
 have q := M_ (Below.refl w.heap.size w)
 unfold spec_SameAlarm.f at h
 have H := h; clear h
 replace H := bi_ H; obtain ⟨G, A3, H⟩ := H
 have AHz_ := M_ H
 clear H
 go_enter Tryz.func123, Tryz.ntmps123
 go_wp2_with (first | ((with_reducible refine gd_ 2 rfl ?_); refine bV_ 2 #[.slice m a.length n, .int .i64 c, .int .i64 d, .string s] 29 ?_; intro O hg w7 j hb; have P := gq_ hg q; replace q := st_ q hb; clear hb hg) | ((with_reducible refine gd_ 3 rfl ?_); refine bV_ 3 #[.slice o b.length p, .int .i64 g, .int .i64 i, .string t] 29 ?_; intro Q hg w8 z hb; have R := gq_ hg q; replace q := st_ q hb; obtain ⟨l, A, j⟩ := nb_ j hg hb; clear hb hg; have ia := n2_ l; obtain ⟨S, T, U, V, W, X, Y, Z⟩ := bc4_ j.1; obtain ⟨aa, ba, ca, da, ea, fa, ga, ha⟩ := bc4_ z.1) | (((with_reducible refine gate_callee (f := 102) rfl ?_); refine gl_ (some 9) Tryz.func102 #[.slice m a.length n, .slice o b.length p] ?_; (with_reducible refine (spec_SameSet.calls k _ _ a _ _ b G _ ?_ ?_ ?_ ?_ A3.1).mono ?_); exact cp_ ((Kd.C_below B.1 q.1)); exact D.1; exact cp_ ((Kd.C_below E.1 q.1)); exact F.1; rintro e w' ⟨rfl, ⟨nd, rfl⟩⟩; refine ⟨_, rfl, ?_⟩); refine Aside0.out ?_))
 have H := AHz_.1
 clear AHz_
 replace H := ib_ H; rcases H with ⟨rfl, H⟩ | ⟨rfl, H⟩
 ·
  replace H := ie_ H; rcases H with ⟨I, H⟩ | ⟨I, H⟩
  ·
   have K : (c == g) = true := beq_iff_eq.mpr I
   have L : (c != g) = false := bne_eq_false_iff_eq.mpr I
   clear I
   replace H := ie_ H; rcases H with ⟨J, H⟩ | ⟨J, H⟩
   ·
    have M : (d == i) = true := beq_iff_eq.mpr J
    have N : (d != i) = false := bne_eq_false_iff_eq.mpr J
    clear J
    obtain rfl := Option.some.inj H
    refine ⟨?_⟩
    go_wp2
    go_ret
    exact an_ (hs_ q.1)
   have M : (d == i) = false := beq_eq_false_iff_ne.mpr J
   have N : (d != i) = true := bne_iff_ne.mpr J
   obtain rfl := Option.some.inj H
   refine ⟨?_⟩
   go_wp2
   go_ret
   exact an_ (hs_ q.1)
  have K : (c == g) = false := beq_eq_false_iff_ne.mpr I
  have L : (c != g) = true := bne_iff_ne.mpr I
  obtain rfl := Option.some.inj H
  refine ⟨?_⟩
  go_wp2
  go_ret
  exact an_ (hs_ q.1)
 obtain rfl := Option.some.inj H
 refine ⟨?_⟩
 go_wp2
 go_ret
 exact an_ (hs_ q.1)
def spec_l4Same.l0 : Nat → List (S29) → List (S29) → Int → Option (Bool)
 | 0, _, _, _ => none
 | k + 1, c, d, a => if a < (c.length : Int) then (if 0 ≤ a then (if a < (d.length : Int) then ((spec_SameAlarm.f k ((rd_T29 c a).f0) ((rd_T29 c a).f1) ((rd_T29 c a).f2) ((rd_T29 c a).f3) ((rd_T29 d a).f0) ((rd_T29 d a).f1) ((rd_T29 d a).f2) ((rd_T29 d a).f3)).bind fun b => (if b = true then (spec_l4Same.l0 k c d (wrap64 (a + 1))) else (some false))) else (none)) else (none)) else (some true)
def spec_l4Same.f (k : Nat) (l0 : List (S29)) (a : List (S29)) : Option (Bool) := if (l0.length : Int) = (a.length : Int) then (spec_l4Same.l0 k l0 a 0) else (some false)
def spec_l4Same.T6 : Bool × List (List Nat × List Nat) := (true, [([], []), ([], []), ([0, 1], [0, 1]), ([2], [2]), ([], []), ([], []), ([4, 5], [4, 5]), ([6], [6]), ([3, 7], [3, 7]), ([8], [8])])
def spec_l4Same.B6 : List Nat := [0, 0, 3, 7, 0, 0, 48, 112, 255, 511]
theorem spec_l4Same.tab6 : rtab .any (opsOf Tryz.f109 6) = spec_l4Same.T6 := by kernel_rfl
theorem spec_l4Same.bits6 : waitsOk spec_l4Same.T6.2 spec_l4Same.B6 = true := by kernel_rfl
theorem spec_l4Same.calls (k : Nat) (A0 : Option Addr) (c0 : Nat) (l0 : List (S29)) (A1 : Option Addr) (c1 : Nat) (M : List (S29)) (r : Bool) (w : World) (ca : Kd.C k29 w A0 l0.length l0) (da : l0.length ≤ c0) (ea : Kd.C k29 w A1 M.length M) (fa : M.length ≤ c1) (h : spec_l4Same.f k l0 M = some r) :
  Calls Tryz.prog 109 #[.slice A0 l0.length c0, .slice A1 M.length c1] w fun e w' => e = .returned (.bool r) ∧ Below w.heap.size w w' := by
 have hu29 := Tryz.underlying29
 have ga := M_ ca
 have za := M_ da
 clear ca da
 have ha := M_ ea
 have Aa := M_ fa
 clear ea fa
 have y := M_ (Below.refl w.heap.size w)
 unfold spec_l4Same.f at h
 have H := h; clear h
 replace H := ie_ H; rcases H with ⟨c3, H⟩ | ⟨c3, H⟩
 ·
  have ia : ((l0.length : Int) == (M.length : Int)) = true := beq_iff_eq.mpr c3
  have ja : ((l0.length : Int) != (M.length : Int)) = false := bne_eq_false_iff_eq.mpr c3
  have ka : (l0.length == M.length) = true := by first | simpa using c3 | (simp at c3 ⊢; omega)
  clear c3
  have H' := M_ H
  clear H
  go_enter Tryz.func109, Tryz.ntmps109
  go_wp2
  go_loopg [5] k (fun kq v5 w' => ∃ (a : Int), v5 = .int .i64 a ∧ Aside0 (spec_l4Same.l0 kq l0 M a = some r) ∧ Aside0 (kq ≤ k) ∧ Aside0 (Below w.heap.size w w'))
  case atStart => exact ⟨(0), rs_, H', ⟨Nat.le_refl _⟩, ⟨hs_ y.1⟩⟩
  case round =>
   clear H'
   obtain ⟨a, rfl, HA, la, y⟩ := hrel
   cases gk with
   | zero => exact absurd HA.1 (by simp [spec_l4Same.l0])
   | succ k1 =>
    have H := HA.1
    clear HA
    simp only [spec_l4Same.l0] at H
    replace H := ie_ H; rcases H with ⟨c4, H⟩ | ⟨c4, H⟩
    ·
     have na := decide_eq_true c4
     clear c4
     replace H := i2_ H; obtain ⟨wa, xa, H⟩ := H
     replace H := bi_ H; obtain ⟨qa, A7, H⟩ := H
     replace H := ib_ H; rcases H with ⟨rfl, H⟩ | ⟨rfl, H⟩
     ·
      have H' := M_ H
      clear H
      try go_wp2
      replace y := db_ y
      obtain ⟨R, T⟩ : 0 ≤ (a : Int) ∧ a < (l0.length : Int) := pq_
      obtain ⟨z, N, O, Y, b, d, g, i, B, D⟩ := at_T29 ga.1 a R T
      have o := i
      have p := g
      have q := d
      have s := b
      cases Y
      replace b := c4_ y b d g i; clear d g i; obtain ⟨b, d, g, i⟩ := b
      have E := M_ D
      have W := M_ B
      clear D B
      replace R := eq_true R; replace T := eq_true T
      obtain ⟨U, V⟩ : 0 ≤ (a : Int) ∧ a < (M.length : Int) := pq_
      obtain ⟨A, P, Q, Z, c, j, l, m, F, G⟩ := at_T29 ha.1 a U V
      have t := m
      have u := l
      have v := j
      have x := c
      cases Z
      replace c := c4_ y c j l m; clear j l m; obtain ⟨c, j, l, m⟩ := c
      have I := M_ G
      have X := M_ F
      clear G F
      replace U := eq_true U; replace V := eq_true V
      refine start_ (n := 10) (S := fun w' => w'.cell? (z.add ((a).toNat * 4)) = some (.slice N ((rd_T29 l0 a).f0).length O) ∧ d_ w' (z.add ((a).toNat * 4)) 1 (.int .i64 ((rd_T29 l0 a).f1)) ∧ d_ w' (z.add ((a).toNat * 4)) 2 (.int .i64 ((rd_T29 l0 a).f2)) ∧ d_ w' (z.add ((a).toNat * 4)) 3 (.string ((rd_T29 l0 a).f3)) ∧ w'.cell? (A.add ((a).toNat * 4)) = some (.slice P ((rd_T29 M a).f0).length Q) ∧ d_ w' (A.add ((a).toNat * 4)) 1 (.int .i64 ((rd_T29 M a).f1)) ∧ d_ w' (A.add ((a).toNat * 4)) 2 (.int .i64 ((rd_T29 M a).f2)) ∧ d_ w' (A.add ((a).toNat * 4)) 3 (.string ((rd_T29 M a).f3))) (ds := []) (b_ 0 10) (by kernel_rfl) rfl rfl ⟨((y.1.cell (World.block_lt_of_cell? w _ s)).trans s), ((y.1.cell (World.block_lt_of_cell? w _ q)).trans q), ((y.1.cell (World.block_lt_of_cell? w _ p)).trans p), ((y.1.cell (World.block_lt_of_cell? w _ o)).trans o), ((y.1.cell (World.block_lt_of_cell? w _ x)).trans x), ((y.1.cell (World.block_lt_of_cell? w _ v)).trans v), ((y.1.cell (World.block_lt_of_cell? w _ u)).trans u), ((y.1.cell (World.block_lt_of_cell? w _ t)).trans t)⟩ (fun J => ?_); refine with_tabW spec_l4Same.tab6 spec_l4Same.bits6 (fun L aa => ?_)
      generalize wr.drew = w9 at y E I b d g i c j l m J ⊢
      iterate 3 refine p_ L ?_
      refine qw_ 4 (m_ 10 23) L ?_
      refine qw_ 5 (m_ 10 55) L ?_
      refine qw_ 6 (m_ 10 119) L ?_
      refine qt_ 3 (b_ 7 3) L aa J ?_
      refine t0_ L aa J ?_
      refine o1_ 8 (b_ 9 1) L (fun K hK => ?_)
      refine gs_ Tryz.func123 #[.agg #[.slice N ((rd_T29 l0 a).f0).length O, .int .i64 ((rd_T29 l0 a).f1), .int .i64 ((rd_T29 l0 a).f2), .string ((rd_T29 l0 a).f3)], .agg #[.slice P ((rd_T29 M a).f0).length Q, .int .i64 ((rd_T29 M a).f1), .int .i64 ((rd_T29 M a).f2), .string ((rd_T29 M a).f3)]] ?_
      with_reducible refine (spec_SameAlarm.calls k1 _ _ ((rd_T29 l0 a).f0) ((rd_T29 l0 a).f1) ((rd_T29 l0 a).f2) ((rd_T29 l0 a).f3) _ _ ((rd_T29 M a).f0) ((rd_T29 M a).f1) ((rd_T29 M a).f2) ((rd_T29 M a).f3) true _ ?_ ?_ ?_ ?_ A7.1).mono ?_
      exact cp_ ((Kd.C_below E.1 y.1))
      exact W.1
      exact cp_ ((Kd.C_below I.1 y.1))
      exact X.1
      rintro e Ca ⟨rfl, hb⟩
      refine ⟨_, rfl, ?_⟩
      replace y := st_ y hb
      (try clear hb)
      refine ho_ hK ⟨((y.1.cell (World.block_lt_of_cell? w _ s)).trans s), ((y.1.cell (World.block_lt_of_cell? w _ q)).trans q), ((y.1.cell (World.block_lt_of_cell? w _ p)).trans p), ((y.1.cell (World.block_lt_of_cell? w _ o)).trans o), ((y.1.cell (World.block_lt_of_cell? w _ x)).trans x), ((y.1.cell (World.block_lt_of_cell? w _ v)).trans v), ((y.1.cell (World.block_lt_of_cell? w _ u)).trans u), ((y.1.cell (World.block_lt_of_cell? w _ t)).trans t)⟩ (fun J => ?_)
      refine p_ L ?_
      refine done_ (done_of L.1 (by kernel_rfl)) ?_
      try go_wp2
      go_roundg k1
      case measure => have := la.1; omega
      case rel => exact ⟨(wrap64 (a + 1)), rs_, H', ⟨by have := la.1; omega⟩, ⟨hs_ y.1⟩⟩
     obtain rfl := Option.some.inj H
     try go_wp2
     replace y := db_ y
     obtain ⟨R, T⟩ : 0 ≤ (a : Int) ∧ a < (l0.length : Int) := pq_
     obtain ⟨z, N, O, Y, b, d, g, i, B, D⟩ := at_T29 ga.1 a R T
     have o := i
     have p := g
     have q := d
     have s := b
     cases Y
     replace b := c4_ y b d g i; clear d g i; obtain ⟨b, d, g, i⟩ := b
     have E := M_ D
     have W := M_ B
     clear D B
     replace R := eq_true R; replace T := eq_true T
     obtain ⟨U, V⟩ : 0 ≤ (a : Int) ∧ a < (M.length : Int) := pq_
     obtain ⟨A, P, Q, Z, c, j, l, m, F, G⟩ := at_T29 ha.1 a U V
     have t := m
     have u := l
     have v := j
     have x := c
     cases Z
     replace c := c4_ y c j l m; clear j l m; obtain ⟨c, j, l, m⟩ := c
     have I := M_ G
     have X := M_ F
     clear G F
     replace U := eq_true U; replace V := eq_true V
     refine start_ (n := 10) (S := fun w' => w'.cell? (z.add ((a).toNat * 4)) = some (.slice N ((rd_T29 l0 a).f0).length O) ∧ d_ w' (z.add ((a).toNat * 4)) 1 (.int .i64 ((rd_T29 l0 a).f1)) ∧ d_ w' (z.add ((a).toNat * 4)) 2 (.int .i64 ((rd_T29 l0 a).f2)) ∧ d_ w' (z.add ((a).toNat * 4)) 3 (.string ((rd_T29 l0 a).f3)) ∧ w'.cell? (A.add ((a).toNat * 4)) = some (.slice P ((rd_T29 M a).f0).length Q) ∧ d_ w' (A.add ((a).toNat * 4)) 1 (.int .i64 ((rd_T29 M a).f1)) ∧ d_ w' (A.add ((a).toNat * 4)) 2 (.int .i64 ((rd_T29 M a).f2)) ∧ d_ w' (A.add ((a).toNat * 4)) 3 (.string ((rd_T29 M a).f3))) (ds := []) (b_ 0 10) (by kernel_rfl) rfl rfl ⟨((y.1.cell (World.block_lt_of_cell? w _ s)).trans s), ((y.1.cell (World.block_lt_of_cell? w _ q)).trans q), ((y.1.cell (World.block_lt_of_cell? w _ p)).trans p), ((y.1.cell (World.block_lt_of_cell? w _ o)).trans o), ((y.1.cell (World.block_lt_of_cell? w _ x)).trans x), ((y.1.cell (World.block_lt_of_cell? w _ v)).trans v), ((y.1.cell (World.block_lt_of_cell? w _ u)).trans u), ((y.1.cell (World.block_lt_of_cell? w _ t)).trans t)⟩ (fun J => ?_); refine with_tabW spec_l4Same.tab6 spec_l4Same.bits6 (fun L aa => ?_)
     generalize wr.drew = Da at y E I b d g i c j l m J ⊢
     iterate 3 refine p_ L ?_
     refine qw_ 4 (m_ 10 23) L ?_
     refine qw_ 5 (m_ 10 55) L ?_
     refine qw_ 6 (m_ 10 119) L ?_
     refine qt_ 3 (b_ 7 3) L aa J ?_
     refine t0_ L aa J ?_
     refine o1_ 8 (b_ 9 1) L (fun K hK => ?_)
     refine gs_ Tryz.func123 #[.agg #[.slice N ((rd_T29 l0 a).f0).length O, .int .i64 ((rd_T29 l0 a).f1), .int .i64 ((rd_T29 l0 a).f2), .string ((rd_T29 l0 a).f3)], .agg #[.slice P ((rd_T29 M a).f0).length Q, .int .i64 ((rd_T29 M a).f1), .int .i64 ((rd_T29 M a).f2), .string ((rd_T29 M a).f3)]] ?_
     with_reducible refine (spec_SameAlarm.calls k1 _ _ ((rd_T29 l0 a).f0) ((rd_T29 l0 a).f1) ((rd_T29 l0 a).f2) ((rd_T29 l0 a).f3) _ _ ((rd_T29 M a).f0) ((rd_T29 M a).f1) ((rd_T29 M a).f2) ((rd_T29 M a).f3) false _ ?_ ?_ ?_ ?_ A7.1).mono ?_
     exact cp_ ((Kd.C_below E.1 y.1))
     exact W.1
     exact cp_ ((Kd.C_below I.1 y.1))
     exact X.1
     rintro e Ea ⟨rfl, hb⟩
     refine ⟨_, rfl, ?_⟩
     replace y := st_ y hb
     (try clear hb)
     refine ho_ hK ⟨((y.1.cell (World.block_lt_of_cell? w _ s)).trans s), ((y.1.cell (World.block_lt_of_cell? w _ q)).trans q), ((y.1.cell (World.block_lt_of_cell? w _ p)).trans p), ((y.1.cell (World.block_lt_of_cell? w _ o)).trans o), ((y.1.cell (World.block_lt_of_cell? w _ x)).trans x), ((y.1.cell (World.block_lt_of_cell? w _ v)).trans v), ((y.1.cell (World.block_lt_of_cell? w _ u)).trans u), ((y.1.cell (World.block_lt_of_cell? w _ t)).trans t)⟩ (fun J => ?_)
     refine p_ L ?_
     refine done_ (done_of L.1 (by kernel_rfl)) ?_
     try go_wp2
     go_ret
     exact an_ (hs_ y.1)
    have na : decide (a < (l0.length : Int)) = false := decide_eq_false c4
    clear c4
    obtain rfl := Option.some.inj H
    go_wp2
    go_ret
    exact an_ (hs_ y.1)
 have ia : ((l0.length : Int) == (M.length : Int)) = false := beq_eq_false_iff_ne.mpr c3
 have ja : ((l0.length : Int) != (M.length : Int)) = true := bne_iff_ne.mpr c3
 have ka : (l0.length == M.length) = false := by first | simpa using c3 | (simp at c3 ⊢; omega)
 obtain rfl := Option.some.inj H
 go_enter Tryz.func109, Tryz.ntmps109
 go_wp2
 go_ret
 exact an_ (hs_ y.1)
def spec_SameChain.f (k : Nat) (b : Int) (c : List (S29)) (d : Int) (e : List (S29)) : Option (Bool) := if b = d then ((spec_l4Same.f k c e).bind fun a => (some a)) else (some false)
theorem spec_SameChain.calls (k : Nat) (b : Int) (m : Option Addr) (n : Nat) (c : List (S29)) (d : Int) (o : Option Addr) (p : Nat) (g : List (S29)) (r : Bool) (w : World) (q : Kd.C k29 w m c.length c) (s : c.length ≤ n) (t : Kd.C k29 w o g.length g) (u : g.length ≤ p) (h : spec_SameChain.f k b c d g = some r) :
  Calls Tryz.prog 79 #[.agg #[.int .i64 b, .slice m c.length n], .agg #[.int .i64 d, .slice o g.length p]] w fun e w' => e = .returned (.bool r) ∧ Below w.heap.size w w' := by
 have hu80 := Tryz.underlying80
 have x := M_ q
 have y := M_ s
 clear q s
 have z := M_ t
 have A := M_ u
 clear t u
 have l := M_ (Below.refl w.heap.size w)
 unfold spec_SameChain.f at h
 have H := h; clear h
 have AHz_ := M_ H
 clear H
 go_enter Tryz.func79, Tryz.ntmps79
 go_wp2_with (first | ((with_reducible refine gd_ 2 rfl ?_); refine bV_ 2 #[.int .i64 b, .slice m c.length n] 80 ?_; intro G hg W a hb; have I := gq_ hg l; replace l := st_ l hb; clear hb hg) | (((with_reducible refine gd_ 3 rfl ?_); refine bV_ 3 #[.int .i64 d, .slice o g.length p] 80 ?_; intro J hg X i hb; have K := gq_ hg l; replace l := st_ l hb; obtain ⟨j, v, a⟩ := nb_ a hg hb; clear hb hg; have L := n2_ j; obtain ⟨M, N, O, P⟩ := bc2_ a.1; obtain ⟨Q, R, S, T⟩ := bc2_ i.1); refine Aside0.out ?_))
 have H := AHz_.1
 clear AHz_
 replace H := ie_ H; rcases H with ⟨D, H⟩ | ⟨D, H⟩
 ·
  have E : (b == d) = true := beq_iff_eq.mpr D
  have F : (b != d) = false := bne_eq_false_iff_eq.mpr D
  clear D
  replace H := bi_ H; obtain ⟨B, U, H⟩ := H
  obtain rfl := Option.some.inj H
  refine ⟨?_⟩
  go_wp2_with (first | (go_at_call 109; (with_reducible refine (spec_l4Same.calls k _ _ c _ _ g B _ ?_ ?_ ?_ ?_ U.1).mono ?_); exact cp_ ((Kd.C_below x.1 l.1)); exact y.1; exact cp_ ((Kd.C_below z.1 l.1)); exact A.1; rintro e V ⟨rfl, hb⟩; obtain ⟨a, i, l⟩ := u3_ hb a i l; (try clear hb)))
  go_ret
  exact an_ (hs_ l.1)
 have E : (b == d) = false := beq_eq_false_iff_ne.mpr D
 have F : (b != d) = true := bne_iff_ne.mpr D
 obtain rfl := Option.some.inj H
 refine ⟨?_⟩
 go_wp2
 go_ret
 exact an_ (hs_ l.1)
mutual
def spec_SamePart.j0 : Nat → Bool → Int → Int → List (S80) → Int → Int → List (S80) → Option (Bool)
 | 0, _, _, _, _, _, _, _ => none
 | k + 1, g, a, b, c, d, e, f => if g = true then (some false) else (spec_SamePart.l0 k 0 a b c d e f)
def spec_SamePart.l0 : Nat → Int → Int → Int → List (S80) → Int → Int → List (S80) → Option (Bool)
 | 0, _, _, _, _, _, _, _ => none
 | k + 1, h, c, d, a, e, g, b => if h < (a.length : Int) then (if 0 ≤ h then (if h < (b.length : Int) then ((spec_SameChain.f k ((rd_T80 a h).f0) ((rd_T80 a h).f1) ((rd_T80 b h).f0) ((rd_T80 b h).f1)).bind fun i => (if i = true then (spec_SamePart.l0 k (wrap64 (h + 1)) c d a e g b) else (some false))) else (none)) else (none)) else (some true)
end
def spec_SamePart.f (k : Nat) (a : Int) (b : Int) (c : List (S80)) (d : Int) (e : Int) (f : List (S80)) : Option (Bool) := if a = d then (if b = e then (spec_SamePart.j0 k ((c.length : Int) != (f.length : Int)) a b c d e f) else (spec_SamePart.j0 k true a b c d e f)) else (spec_SamePart.j0 k true a b c d e f)
def spec_SamePart.T6 : Bool × List (List Nat × List Nat) := (true, [([], []), ([0], [0]), ([], []), ([1, 2], [1, 2]), ([3], [3]), ([], []), ([5], [5]), ([], []), ([6, 7], [6, 7]), ([8], [8]), ([4, 9], [4, 9]), ([10], [10])])
def spec_SamePart.B6 : List Nat := [0, 1, 0, 7, 15, 0, 32, 0, 224, 480, 1023, 2047]
theorem spec_SamePart.tab6 : rtab .any (opsOf Tryz.f23 6) = spec_SamePart.T6 := by kernel_rfl
theorem spec_SamePart.bits6 : waitsOk spec_SamePart.T6.2 spec_SamePart.B6 = true := by kernel_rfl
theorem spec_SamePart.calls (k : Nat) (A : Int) (B : Int) (da : Option Addr) (aa : Nat) (i : List (S80)) (D : Int) (E : Int) (ea : Option Addr) (ba : Nat) (j : List (S80)) (r : Bool) (w : World) (ja : Kd.C k80 w da i.length i) (ka : i.length ≤ aa) (la : Kd.C k80 w ea j.length j) (ma : j.length ≤ ba) (h : spec_SamePart.f k A B i D E j = some r) :
  Calls Tryz.prog 23 #[.agg #[.int .i64 A, .int .i64 B, .slice da i.length aa], .agg #[.int .i64 D, .int .i64 E, .slice ea j.length ba]] w fun e w' => e = .returned (.bool r) ∧ Below w.heap.size w w' := by
 have hu26 := Tryz.underlying26
 have hu80 := Tryz.underlying80
 have na := M_ ja
 have Ea := M_ ka
 clear ja ka
 have oa := M_ la
 have Fa := M_ ma
 clear la ma
 have x := M_ (Below.refl w.heap.size w)
 unfold spec_SamePart.f at h
 have H := h; clear h
 have ra := M_ H
 clear H
 go_enter Tryz.func23, Tryz.ntmps23
 go_upto_region 1 with (first | ((with_reducible refine gd_ 2 rfl ?_); refine bV_ 2 #[.int .i64 A, .int .i64 B, .slice da i.length aa] 26 ?_; intro y hg w4 a hb; have Ca := gq_ hg x; replace x := st_ x hb; clear hb hg) | ((with_reducible refine gd_ 3 rfl ?_); refine bV_ 3 #[.int .i64 D, .int .i64 E, .slice ea j.length ba] 26 ?_; intro z hg w5 b hb; have Da := gq_ hg x; replace x := st_ x hb; obtain ⟨o, qa, a⟩ := nb_ a hg hb; clear hb hg))
 (try simp only [Act.put, List.setIfInBounds_toArray, List.set_cons_zero, List.set_cons_succ])
 go_cut [26] (fun Ga wc => ∃ (kq : Nat) (ga : Bool), Ga = .bool ga ∧ Aside0 (spec_SamePart.j0 kq ga A B i D E j = some r) ∧ Aside0 (kq ≤ k) ∧ Aside0 (wc.heap[y]? = some (.cells #[.int .i64 A, .int .i64 B, (.slice da i.length aa)] 26 (0, 0))) ∧ Aside0 (wc.heap[z]? = some (.cells #[.int .i64 D, .int .i64 E, (.slice ea j.length ba)] 26 (0, 0))) ∧ Aside0 (Below w.heap.size w wc))
 case first =>
  have H := ra.1
  clear ra
  replace H := ie_ H; rcases H with ⟨c6, H⟩ | ⟨c6, H⟩
  ·
   have fa : (A == D) = true := beq_iff_eq.mpr c6
   have wa : (A != D) = false := bne_eq_false_iff_eq.mpr c6
   clear c6
   (first | rw [fa] | (simp only [i64_w, i32_w]; rw [fa]) | skip)
   replace H := ie_ H; rcases H with ⟨c7, H⟩ | ⟨c7, H⟩
   ·
    have xa : (B == E) = true := beq_iff_eq.mpr c7
    have ya : (B != E) = false := bne_eq_false_iff_eq.mpr c7
    clear c7
    have H' := M_ H
    clear H
    have Ob := n2_ o
    obtain ⟨Pb, Qb, Rb, Sb, Tb, Ub⟩ := bc3_ a.1
    obtain ⟨Ha, Ia, Ja, Ka, La, Ma⟩ := bc3_ b.1
    go_wp2
    go_meet
    case rel => exact ⟨_, (((i.length : Int) != (j.length : Int))), rs_, H', ⟨by first | omega | exact Nat.le_refl _⟩, ⟨bq_ a.1⟩, ⟨bq_ b.1⟩, ⟨hs_ x.1⟩⟩
   have xa : (B == E) = false := beq_eq_false_iff_ne.mpr c7
   have ya : (B != E) = true := bne_iff_ne.mpr c7
   have H' := M_ H
   clear H
   have Na := n2_ o
   obtain ⟨Oa, Pa, Qa, Ra, Sa, Ta⟩ := bc3_ a.1
   obtain ⟨Ua, Va, Wa, Xa, Ya, Za⟩ := bc3_ b.1
   go_wp2
   go_meet
   case rel => exact ⟨_, (true), rs_, H', ⟨by first | omega | exact Nat.le_refl _⟩, ⟨bq_ a.1⟩, ⟨bq_ b.1⟩, ⟨hs_ x.1⟩⟩
  have fa : (A == D) = false := beq_eq_false_iff_ne.mpr c6
  have wa : (A != D) = true := bne_iff_ne.mpr c6
  (first | rw [fa] | (simp only [i64_w, i32_w]; rw [fa]) | skip)
  have H' := M_ H
  clear H
  have ab := n2_ o
  obtain ⟨bb, cb, db, eb, fb, gb⟩ := bc3_ a.1
  obtain ⟨ib, jb, kb, lb, mb, nb⟩ := bc3_ b.1
  go_wp2
  go_meet
  case rel => exact ⟨_, (true), rs_, H', ⟨by first | omega | exact Nat.le_refl _⟩, ⟨bq_ a.1⟩, ⟨bq_ b.1⟩, ⟨hs_ x.1⟩⟩
 case rest =>
  clear ra
  obtain ⟨kq, ga, rfl, HA, HJ2, a, b, x⟩ := hcut
  cases kq with
  | zero => exact absurd HA.1 (by simp [spec_SamePart.j0])
  | succ za =>
   have H := HA.1
   clear HA
   simp only [spec_SamePart.j0] at H
   replace H := ib_ H; rcases H with ⟨rfl, H⟩ | ⟨rfl, H⟩
   ·
    obtain rfl := Option.some.inj H
    go_wp2
    go_ret
    exact an_ (hs_ x.1)
   have H' := M_ H
   clear H
   go_wp2
   go_loopg [5] za (fun kq v5 w' => ∃ (c : Int), v5 = .int .i64 c ∧ Aside0 (spec_SamePart.l0 kq c A B i D E j = some r) ∧ Aside0 (kq ≤ za) ∧ Aside0 (w'.heap[y]? = some (.cells #[.int .i64 A, .int .i64 B, (.slice da i.length aa)] 26 (0, 0))) ∧ Aside0 (w'.heap[z]? = some (.cells #[.int .i64 D, .int .i64 E, (.slice ea j.length ba)] 26 (0, 0))) ∧ Aside0 (Below w.heap.size w w'))
   case atStart => exact ⟨(0), rs_, H', ⟨Nat.le_refl _⟩, ⟨bq_ a.1⟩, ⟨bq_ b.1⟩, ⟨hs_ x.1⟩⟩
   case round =>
    clear H'
    obtain ⟨c, rfl, HA, Aa, a, b, x⟩ := hrel
    cases gk with
    | zero => exact absurd HA.1 (by simp [spec_SamePart.l0])
    | succ k2 =>
     have H := HA.1
     clear HA
     simp only [spec_SamePart.l0] at H
     replace H := ie_ H; rcases H with ⟨pa, H⟩ | ⟨pa, H⟩
     ·
      have ta := decide_eq_true pa
      clear pa
      replace H := i2_ H; obtain ⟨pb, qb, H⟩ := H
      replace H := bi_ H; obtain ⟨rb, Ba, H⟩ := H
      replace H := ib_ H; rcases H with ⟨rfl, H⟩ | ⟨rfl, H⟩
      ·
       have H' := M_ H
       clear H
       have sb := n2_ o
       obtain ⟨tb, ub, vb, wb, xb, yb⟩ := bc3_ a.1
       try go_wp2
       obtain ⟨a, b, x⟩ := y3_ a b x
       obtain ⟨U, V⟩ : 0 ≤ (c : Int) ∧ c < (i.length : Int) := pq_
       obtain ⟨N, P, Q, ha, d, l, F, G⟩ := at_T80 na.1 c U V
       have p := l
       have q := d
       cases ha
       replace d := c2_ x d l; clear l; obtain ⟨d, l⟩ := d
       have I := M_ G
       have Y := M_ F
       clear G F
       replace U := eq_true U; replace V := eq_true V
       obtain ⟨W, X⟩ : 0 ≤ (c : Int) ∧ c < (j.length : Int) := pq_
       obtain ⟨O, R, T, ia, g, m, J, L⟩ := at_T80 oa.1 c W X
       have s := m
       have t := g
       cases ia
       replace g := c2_ x g m; clear m; obtain ⟨g, m⟩ := g
       have M := M_ L
       have Z := M_ J
       clear L J
       replace W := eq_true W; replace X := eq_true X
       refine start_ (n := 12) (S := fun w' => c_ w' y 0 (.int .i64 A) ∧ c_ w' y 1 (.int .i64 B) ∧ c_ w' y 2 (.slice (some N) i.length aa) ∧ c_ w' z 0 (.int .i64 D) ∧ c_ w' z 1 (.int .i64 E) ∧ c_ w' z 2 (.slice (some O) j.length ba) ∧ w'.cell? (N.add ((c).toNat * 2)) = some (.int .i64 ((rd_T80 i c).f0)) ∧ d_ w' (N.add ((c).toNat * 2)) 1 (.slice P ((rd_T80 i c).f1).length Q) ∧ w'.cell? (O.add ((c).toNat * 2)) = some (.int .i64 ((rd_T80 j c).f0)) ∧ d_ w' (O.add ((c).toNat * 2)) 1 (.slice R ((rd_T80 j c).f1).length T)) (ds := []) (b_ 0 12) (by kernel_rfl) rfl rfl ⟨bx_ a.1 0, bx_ a.1 1, bx_ a.1 2, bx_ b.1 0, bx_ b.1 1, bx_ b.1 2, ((x.1.cell (World.block_lt_of_cell? w _ q)).trans q), ((x.1.cell (World.block_lt_of_cell? w _ p)).trans p), ((x.1.cell (World.block_lt_of_cell? w _ t)).trans t), ((x.1.cell (World.block_lt_of_cell? w _ s)).trans s)⟩ (fun u => ?_); refine with_tabW spec_SamePart.tab6 spec_SamePart.bits6 (fun v ca => ?_)
       generalize wr.drew = Wb at a b x I M d l g m u ⊢
       refine p_ v ?_
       refine qw_ 2 (m_ 12 5) v ?_
       refine qw_ 5 (m_ 12 37) v ?_
       refine qw_ 7 (m_ 12 165) v ?_
       refine qt_ 1 (m_ 12 167) v ca u ?_
       refine qw_ 3 (m_ 12 175) v ?_
       refine qt_ 4 (m_ 12 191) v ca u ?_
       refine qt_ 6 (b_ 8 4) v ca u ?_
       refine p_ v ?_
       refine t0_ v ca u ?_
       refine o1_ 10 (b_ 11 1) v (fun K hK => ?_)
       refine gs_ Tryz.func79 #[.agg #[.int .i64 ((rd_T80 i c).f0), .slice P ((rd_T80 i c).f1).length Q], .agg #[.int .i64 ((rd_T80 j c).f0), .slice R ((rd_T80 j c).f1).length T]] ?_
       with_reducible refine (spec_SameChain.calls k2 ((rd_T80 i c).f0) _ _ ((rd_T80 i c).f1) ((rd_T80 j c).f0) _ _ ((rd_T80 j c).f1) true _ ?_ ?_ ?_ ?_ Ba.1).mono ?_
       exact cp_ ((Kd.C_below I.1 x.1))
       exact Y.1
       exact cp_ ((Kd.C_below M.1 x.1))
       exact Z.1
       rintro e Xb ⟨rfl, hb⟩
       refine ⟨_, rfl, ?_⟩
       obtain ⟨a, b, x⟩ := u3_ hb a b x
       (try clear hb)
       refine ho_ hK ⟨bx_ a.1 0, bx_ a.1 1, bx_ a.1 2, bx_ b.1 0, bx_ b.1 1, bx_ b.1 2, ((x.1.cell (World.block_lt_of_cell? w _ q)).trans q), ((x.1.cell (World.block_lt_of_cell? w _ p)).trans p), ((x.1.cell (World.block_lt_of_cell? w _ t)).trans t), ((x.1.cell (World.block_lt_of_cell? w _ s)).trans s)⟩ (fun u => ?_)
       refine p_ v ?_
       refine done_ (done_of v.1 (by kernel_rfl)) ?_
       try go_wp2
       go_roundg k2
       case measure => have := HJ2.1; have := Aa.1; omega
       case rel => exact ⟨(wrap64 (c + 1)), rs_, H', ⟨by have := HJ2.1; have := Aa.1; omega⟩, ⟨bq_ a.1⟩, ⟨bq_ b.1⟩, ⟨hs_ x.1⟩⟩
      obtain rfl := Option.some.inj H
      have Ab := n2_ o
      obtain ⟨Bb, Cb, Db, Eb, Fb, Gb⟩ := bc3_ a.1
      try go_wp2
      obtain ⟨a, b, x⟩ := y3_ a b x
      obtain ⟨U, V⟩ : 0 ≤ (c : Int) ∧ c < (i.length : Int) := pq_
      obtain ⟨N, P, Q, ha, d, l, F, G⟩ := at_T80 na.1 c U V
      have p := l
      have q := d
      cases ha
      replace d := c2_ x d l; clear l; obtain ⟨d, l⟩ := d
      have I := M_ G
      have Y := M_ F
      clear G F
      replace U := eq_true U; replace V := eq_true V
      obtain ⟨W, X⟩ : 0 ≤ (c : Int) ∧ c < (j.length : Int) := pq_
      obtain ⟨O, R, T, ia, g, m, J, L⟩ := at_T80 oa.1 c W X
      have s := m
      have t := g
      cases ia
      replace g := c2_ x g m; clear m; obtain ⟨g, m⟩ := g
      have M := M_ L
      have Z := M_ J
      clear L J
      replace W := eq_true W; replace X := eq_true X
      refine start_ (n := 12) (S := fun w' => c_ w' y 0 (.int .i64 A) ∧ c_ w' y 1 (.int .i64 B) ∧ c_ w' y 2 (.slice (some N) i.length aa) ∧ c_ w' z 0 (.int .i64 D) ∧ c_ w' z 1 (.int .i64 E) ∧ c_ w' z 2 (.slice (some O) j.length ba) ∧ w'.cell? (N.add ((c).toNat * 2)) = some (.int .i64 ((rd_T80 i c).f0)) ∧ d_ w' (N.add ((c).toNat * 2)) 1 (.slice P ((rd_T80 i c).f1).length Q) ∧ w'.cell? (O.add ((c).toNat * 2)) = some (.int .i64 ((rd_T80 j c).f0)) ∧ d_ w' (O.add ((c).toNat * 2)) 1 (.slice R ((rd_T80 j c).f1).length T)) (ds := []) (b_ 0 12) (by kernel_rfl) rfl rfl ⟨bx_ a.1 0, bx_ a.1 1, bx_ a.1 2, bx_ b.1 0, bx_ b.1 1, bx_ b.1 2, ((x.1.cell (World.block_lt_of_cell? w _ q)).trans q), ((x.1.cell (World.block_lt_of_cell? w _ p)).trans p), ((x.1.cell (World.block_lt_of_cell? w _ t)).trans t), ((x.1.cell (World.block_lt_of_cell? w _ s)).trans s)⟩ (fun u => ?_); refine with_tabW spec_SamePart.tab6 spec_SamePart.bits6 (fun v ca => ?_)
      generalize wr.drew = Yb at a b x I M d l g m u ⊢
      refine p_ v ?_
      refine qw_ 2 (m_ 12 5) v ?_
      refine qw_ 5 (m_ 12 37) v ?_
      refine qw_ 7 (m_ 12 165) v ?_
      refine qt_ 1 (m_ 12 167) v ca u ?_
      refine qw_ 3 (m_ 12 175) v ?_
      refine qt_ 4 (m_ 12 191) v ca u ?_
      refine qt_ 6 (b_ 8 4) v ca u ?_
      refine p_ v ?_
      refine t0_ v ca u ?_
      refine o1_ 10 (b_ 11 1) v (fun K hK => ?_)
      refine gs_ Tryz.func79 #[.agg #[.int .i64 ((rd_T80 i c).f0), .slice P ((rd_T80 i c).f1).length Q], .agg #[.int .i64 ((rd_T80 j c).f0), .slice R ((rd_T80 j c).f1).length T]] ?_
      with_reducible refine (spec_SameChain.calls k2 ((rd_T80 i c).f0) _ _ ((rd_T80 i c).f1) ((rd_T80 j c).f0) _ _ ((rd_T80 j c).f1) false _ ?_ ?_ ?_ ?_ Ba.1).mono ?_
      exact cp_ ((Kd.C_below I.1 x.1))
      exact Y.1
      exact cp_ ((Kd.C_below M.1 x.1))
      exact Z.1
      rintro e Zb ⟨rfl, hb⟩
      refine ⟨_, rfl, ?_⟩
      obtain ⟨a, b, x⟩ := u3_ hb a b x
      (try clear hb)
      refine ho_ hK ⟨bx_ a.1 0, bx_ a.1 1, bx_ a.1 2, bx_ b.1 0, bx_ b.1 1, bx_ b.1 2, ((x.1.cell (World.block_lt_of_cell? w _ q)).trans q), ((x.1.cell (World.block_lt_of_cell? w _ p)).trans p), ((x.1.cell (World.block_lt_of_cell? w _ t)).trans t), ((x.1.cell (World.block_lt_of_cell? w _ s)).trans s)⟩ (fun u => ?_)
      refine p_ v ?_
      refine done_ (done_of v.1 (by kernel_rfl)) ?_
      try go_wp2
      go_ret
      exact an_ (hs_ x.1)
     have ta : decide (c < (i.length : Int)) = false := decide_eq_false pa
     clear pa
     obtain rfl := Option.some.inj H
     have Hb := n2_ o
     obtain ⟨Ib, Jb, Kb, Lb, Mb, Nb⟩ := bc3_ a.1
     go_wp2
     go_ret
     exact an_ (hs_ x.1)
def impl_AlarmsIn.l0 : Nat → List (S29) → List (S80) → Int → Int → Option ((List (S29)))
 | 0, _, _, _, _ => none
 | k + 1, c, d, e, b => if b < e then (if 0 ≤ b then (if b < (d.length : Int) then ((impl_copyAlarms.f k ((rd_T80 d b).f1)).bind fun a => (if c.length + a.length < 2513169434916 then (impl_AlarmsIn.l0 k (c ++ a) d e (wrap64 (b + 1))) else (none))) else (none)) else (none)) else (some c)
def impl_AlarmsIn.f (k : Nat) (b : Int) (c : Int) (a : List (S80)) : Option ((List (S29))) := impl_AlarmsIn.l0 k ([] : List (S29)) a (a.length : Int) 0
theorem impl_AlarmsIn.calls (k : Nat) (s : Int) (t : Int) (u : Option Addr) (v : Nat) (c : List (S80)) (r : List (S29)) (w : World) (B : Kd.C k80 w u c.length c) (D : c.length ≤ v) (h : impl_AlarmsIn.f k s t c = some r) :
  Calls Tryz.prog 25 #[.agg #[.int .i64 s, .int .i64 t, .slice u c.length v]] w fun e w' => ∃ v0_ : Value, e = .returned (v0_) ∧ Kd.S k29 29 w' w.heap.size (fun _ => True) v0_ r ∧ Below w.heap.size w w' := by
 have hu26 := Tryz.underlying26
 have hu80 := Tryz.underlying80
 have L := M_ B
 have ca := M_ D
 clear B D
 have m := M_ (Below.refl w.heap.size w)
 unfold impl_AlarmsIn.f at h
 have H := h; clear h
 have H' := M_ H
 clear H
 go_enter Tryz.func25, Tryz.ntmps25
 go_wp2_with (first | ((with_reducible refine gd_ 1 rfl ?_); refine bV_ 1 #[.int .i64 s, .int .i64 t, .slice u c.length v] 26 ?_; intro F hg w2 a hb; have Y := gq_ hg m; replace m := st_ m hb; clear hb hg; obtain ⟨oa, pa, qa, ra, sa, ta⟩ := bc3_ a.1))
 go_loopg [3, 9] k (fun kq v3 v9 w' => ∃ (n : List (S29)) (g : Int), v9 = .int .i64 g ∧ Aside0 (impl_AlarmsIn.l0 kq n c (c.length : Int) g = some r) ∧ Aside0 (kq ≤ k) ∧ Aside0 (Kd.S k29 29 w' w.heap.size (fun _ => True) v3 n) ∧ Aside0 (w'.heap[F]? = some (.cells #[.int .i64 s, .int .i64 t, (.slice u c.length v)] 26 (0, 0))) ∧ Aside0 (Below w.heap.size w w'))
 case atStart => exact ⟨(([] : List (S29))), (0), rs_, H', ⟨Nat.le_refl _⟩, ⟨ni_⟩, ⟨bq_ a.1⟩, ⟨hs_ m.1⟩⟩
 case round =>
  clear H'
  obtain ⟨n, g, rfl, HA, R, i, a, m⟩ := hrel
  cases gk with
  | zero => exact absurd HA.1 (by simp [impl_AlarmsIn.l0])
  | succ k1 =>
   have H := HA.1
   clear HA
   simp only [impl_AlarmsIn.l0] at H
   replace H := ie_ H; rcases H with ⟨T, H⟩ | ⟨T, H⟩
   ·
    have U := decide_eq_true T
    clear T
    replace H := i2_ H; obtain ⟨ua, va, H⟩ := H
    replace H := bi_ H; obtain ⟨q, A7, H⟩ := H
    replace H := im_ H; obtain ⟨V, H⟩ := H
    obtain ⟨E, hy_⟩ : ∃ y_ : List (S29), y_ = (n ++ q) := ⟨_, rfl⟩
    replace H : (impl_AlarmsIn.l0 k1 E c (c.length : Int) (wrap64 (g + 1))) = some r := hm_
    have G := M_ hy_; clear hy_
    have H' := M_ H
    clear H
    obtain ⟨Z, o, p, M, P, Q, z, A, fa, ga⟩ := au_T80 L.1 m g
    cases M
    go_wp2_with (first | ((with_reducible refine gd_ 5 rfl ?_); refine bV_ 5 #[.int .i64 0, .slice none 0 0] 80 ?_; intro aa hg w9 d hb; replace i := sb_ i hb; have ba := gq_ hg m; replace m := st_ m hb; obtain ⟨I, j, a⟩ := nb_ a hg hb; clear hb hg; have ha := n2_ j; obtain ⟨ia, ja, ka, la⟩ := bc2_ d.1) | ((with_reducible refine gate_callee (f := 81) rfl ?_); refine gl_ (some 16) Tryz.func81 #[.slice o ((rd_T80 c g).f1).length p] ?_; (with_reducible refine (impl_copyAlarms.calls k1 _ _ ((rd_T80 c g).f1) q _ ?_ ?_ A7.1).mono ?_); exact Kd.C_below A.1 (hs_ m.1); exact z.1; rintro e Ba ⟨ma, rfl, N, hb⟩; refine ⟨_, rfl, ?_⟩; obtain ⟨W, x⟩ := Kd.S_name N; replace i := su_ x (sy_ i.1 d.1) hb; have l := sg_ x N m; replace a := bk2_ a hb; replace d := by_ d #[.int .i64 ((rd_T80 c g).f0), .slice o ((rd_T80 c g).f1).length p] hb; replace m := st_ m hb; (try clear hb N); obtain ⟨wa, xa, X⟩ := Kd.S_slice l.1; subst X; obtain ⟨O, J, y⟩ := Kd.S_fp ((Kd.S_mono l.1 (fun k_ hk => (⟨hk, fun ez_ => Nat.lt_irrefl _ (Nat.lt_of_lt_of_le ((Kd.S_R i.1).1 _ ez_.symm).2 hk.2)⟩ : _ ∧ some k_ ≠ (u3 : Value).ownBlock))))) | ((with_reducible refine gate_builtin (b := .append) (xs := #[.tmp 13, .tmp 16]) rfl ?_); at_builtin; refine Kd.S_append_rows k29 (w0 := w) w.heap.size rfl (.tmp 13) (.tmp 16) 40 29 (.agg #[(.slice none 0 0), (.int .i64 0), (.int .i64 0), (.string ⟨#[]⟩)]) 56 rfl Tryz.underlying40 info29 rfl (by decide) (by omega) u3 n q _ _ _ (fun _ => True) O rfl rfl ?aR (fun k_ hk_ => ⟨trivial, (y k_ hk_).1.2⟩) ?aF ?aO ?aB ?aS ?aL ?_; (case aR => exact J); (case aB => exact (hs_ m.1)); (case aF => exact (fun _ _ => trivial)); (case aO => exact (Kd.S_mono (sp_ i.1) (fun k_ hk => ⟨trivial, fun e_ => (fun ez_ => Nat.lt_irrefl _ (Nat.lt_of_lt_of_le hk.2 (y _ ez_).1.1.2)) e_⟩))); (case aS => exact (below_size (hs_ m.1))); (case aL => have := V.1; omega); intro na Da ho hb hg hat; rw [← G.1] at ho; replace a := bg_ a hg i; replace d := bg_ d hg i; replace m := M_ (hb); have K := M_ (ho); clear i l; clear ho hb hg hat))
    go_roundg k1
    case measure => have := R.1; omega
    case rel => exact ⟨(E), (wrap64 (g + 1)), rs_, H', ⟨by have := R.1; omega⟩, ⟨sp_ K.1⟩, ⟨bq_ a.1⟩, ⟨hs_ m.1⟩⟩
   have U : decide (g < (c.length : Int)) = false := decide_eq_false T
   clear T
   obtain rfl := Option.some.inj H
   go_wp2
   go_ret
   exact ⟨_, rr_, sp_ i.1, hs_ m.1⟩
end Go.Proofs.YtanfohlpkppeiaaGreat.Print
end
