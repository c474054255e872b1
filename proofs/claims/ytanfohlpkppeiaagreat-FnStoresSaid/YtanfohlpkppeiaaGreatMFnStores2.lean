import Derived.Test.YtanfohlpkppeiaaGreatMFnStores1
section
namespace Go.Proofs.YtanfohlpkppeiaaGreat.Print
open Go.RowKit Go.Proofs.YtanfohlpkppeiaaGreatV.PrintWords Go.Proofs.YtanfohlpkppeiaaGreatV.PrintLast Go.Proofs.YtanfohlpkppeiaaGreatV.PrintMore
attribute [local go_sem] max2_int min2_int max_two min_two max_three min_three max_four min_four
set_option linter.unusedVariables false
set_option linter.unusedSimpArgs false
set_option maxHeartbeats 8000000
set_option maxRecDepth 100000
def spec_SetOk.l0 : Nat → List (S99) → Int → Option (Bool)
 | 0, _, _ => none
 | k + 1, x0, x3 => if x3 < (x0.length : Int) then (if 0 ≤ x3 then ((spec_LabelOk.f k ((rd_T99 x0 x3).f0) ((rd_T99 x0 x3).f1)).bind fun t179 => (if t179 = true then (if x3 > 0 then (if 0 ≤ (wrap64 (x3 - 1)) then (if (wrap64 (x3 - 1)) < (x0.length : Int) then ((spec_Less.f ((rd_T99 x0 (wrap64 (x3 - 1))).f0) ((rd_T99 x0 x3).f0)).bind fun t182 => (if t182 = true then (spec_SetOk.l0 k x0 (wrap64 (x3 + 1))) else (some false))) else (none)) else (none)) else (spec_SetOk.l0 k x0 (wrap64 (x3 + 1)))) else (some false))) else (none)) else (some (decide ((x0.length : Int) ≤ 4)))
def spec_SetOk.f (k : Nat) (l0 : List (S99)) : Option (Bool) := spec_SetOk.l0 k l0 0
def spec_SetOk.T4 : Bool × List (List Nat × List Nat) := (true, [([], []), ([], []), ([0, 1], [0, 1]), ([2], [2]), ([3], [3]), ([4], [4]), ([5, 4], [5]), ([6], [6]), ([7, 6], [6, 7]), ([8, 6, 6], [6, 8]), ([9], [9]), ([9], [9]), ([11, 9], [9, 11]), ([10, 12, 9], [9, 10, 12]), ([13, 9], [9, 13]), ([14, 9], [9, 14]), ([9], [9]), ([9], [9]), ([16, 17, 9], [9, 16, 17]), ([18, 9], [9, 18]), ([19, 9], [9, 19]), ([15, 20, 9, 9], [9, 15, 20]), ([21, 9], [9, 21]), ([9, 22, 6], [6, 9, 22]), ([6, 23], [6, 23])])
def spec_SetOk.B4 : List Nat := [0, 0, 3, 7, 15, 31, 63, 127, 255, 511, 1023, 1023, 3071, 8191, 16383, 32767, 1023, 1023, 197631, 459775, 984063, 2097151, 4194303, 8388607, 16777215]
theorem spec_SetOk.tab4 : rtab .any (opsOf Tryz.f118 4) = spec_SetOk.T4 := by kernel_rfl
theorem spec_SetOk.bits4 : waitsOk spec_SetOk.T4.2 spec_SetOk.B4 = true := by kernel_rfl
theorem spec_SetOk.calls (k : Nat) (A0 : Option Addr) (c0 : Nat) (l0 : List (S99)) (r : Bool) (w : World) (V : Kd.C k99 w A0 l0.length l0) (W : l0.length ≤ c0) (h : spec_SetOk.f k l0 = some r) :
  Calls Tryz.prog 118 #[.slice A0 l0.length c0] w fun e w' => e = .returned (.bool r) ∧ Below w.heap.size w w' := by
 have hu99 := Tryz.underlying99
 have L := Aside0.mk V
 have la := Aside0.mk W
 clear V W
 have u := Aside0.mk (Below.refl w.heap.size w)
 have H : (spec_SetOk.l0 k l0 0) = some r := h
 clear h
 have H' := Aside0.mk H
 clear H
 go_enter Tryz.func118, Tryz.ntmps118
 go_wp2
 go_loopg [3] k (fun kq v3 w' => ∃ (a : Int), v3 = .int .i64 a ∧ Aside0 (spec_SetOk.l0 kq l0 a = some r) ∧ Aside0 (kq ≤ k) ∧ Aside0 (Below w.heap.size w w'))
 case atStart => exact ⟨(0), rs_, H', ⟨Nat.le_refl _⟩, ⟨hs_ u.out⟩⟩
 case round =>
  clear H'
  obtain ⟨a, rfl, HA, R, u⟩ := hrel
  cases gk with
  | zero => exact absurd HA.out (by simp [spec_SetOk.l0])
  | succ U =>
   have H := HA.out
   clear HA
   simp only [spec_SetOk.l0] at H
   replace H := ie_ H; rcases H with ⟨X, H⟩ | ⟨X, H⟩
   ·
    have Y := decide_eq_true X
    clear X
    replace H := id_ H; obtain ⟨ha, H⟩ := H
    replace H := bi_ H; obtain ⟨ia, Z, H⟩ := H
    replace H := ib_ H; rcases H with ⟨rfl, H⟩ | ⟨rfl, H⟩
    ·
     replace H := ie_ H; rcases H with ⟨c6, H⟩ | ⟨c6, H⟩
     ·
      have ba : decide (0 < a) = true := decide_eq_true c6
      clear c6
      obtain ⟨y, B⟩ : ∃ j_ : Int, (wrap64 (a - 1)) = j_ := ⟨_, rfl⟩
      replace H : (if 0 ≤ (y) then (if (y) < (l0.length : Int) then ((spec_Less.f ((rd_T99 l0 (y)).f0) ((rd_T99 l0 a).f0)).bind fun T => (if T = true then (spec_SetOk.l0 U l0 (wrap64 (a + 1))) else (some false))) else (none)) else (none)) = some r := by first | (rw [B] at H; exact H) | (simp only [B] at H ⊢; exact H)
      (try rw [B] at Z)
      have ea : (IntKind.i64.wrap (a - 1)) = y := (i64_w _).trans B
      replace H := id_ H; obtain ⟨ja, H⟩ := H
      replace H := id_ H; obtain ⟨ka, H⟩ := H
      replace H := bi_ H; obtain ⟨T, ca, H⟩ := H
      replace H := ib_ H; rcases H with ⟨rfl, H⟩ | ⟨rfl, H⟩
      ·
       have H' := Aside0.mk H
       clear H
       try go_wp2
       replace u := Aside0.mk (bd_ u.out)
       obtain ⟨z, A⟩ : 0 ≤ (a : Int) ∧ a < (l0.length : Int) := pq_
       obtain ⟨i, D, b, c⟩ := at_T99 L.out a z A
       have d := c
       have g := b
       cases D
       replace b := c2_ u b c; clear c; obtain ⟨b, c⟩ := b
       replace z := eq_true z; replace A := eq_true A
       obtain ⟨E, F⟩ : 0 ≤ ((y) : Int) ∧ (y) < (l0.length : Int) := pq_
       obtain ⟨M, O, m, v⟩ := at_T99 L.out (y) E F
       have o := v
       have p := m
       obtain rfl : i = M := (by injection O)
       replace m := c2_ u m v; clear v; obtain ⟨m, v⟩ := m
       replace E := eq_true E; replace F := eq_true F
       obtain ⟨G, I⟩ : 0 ≤ (a : Int) ∧ a < (l0.length : Int) := pq_
       obtain ⟨N, P, q, x⟩ := at_T99 L.out a G I
       have s := x
       have t := q
       obtain rfl : i = N := (by injection P)
       replace q := c2_ u q x; clear x; obtain ⟨q, x⟩ := q
       replace G := eq_true G; replace I := eq_true I
       refine start_ (n := 25) (S := fun w' => w'.cell? (i.add ((a).toNat * 2)) = some (.string ((rd_T99 l0 a).f0)) ∧ w'.cell? ⟨(i.add ((a).toNat * 2)).block, (i.add ((a).toNat * 2)).off + 1, none⟩ = some (.string ((rd_T99 l0 a).f1)) ∧ w'.cell? (i.add (((y)).toNat * 2)) = some (.string ((rd_T99 l0 (y)).f0)) ∧ w'.cell? ⟨(i.add (((y)).toNat * 2)).block, (i.add (((y)).toNat * 2)).off + 1, none⟩ = some (.string ((rd_T99 l0 (y)).f1)) ∧ w'.cell? (i.add ((a).toNat * 2)) = some (.string ((rd_T99 l0 a).f0)) ∧ w'.cell? ⟨(i.add ((a).toNat * 2)).block, (i.add ((a).toNat * 2)).off + 1, none⟩ = some (.string ((rd_T99 l0 a).f1))) (ds := []) (b_ 0 25) (by kernel_rfl) rfl rfl ⟨((u.out.cell (World.block_lt_of_cell? w _ g)).trans g), ((u.out.cell (World.block_lt_of_cell? w _ d)).trans d), ((u.out.cell (World.block_lt_of_cell? w _ p)).trans p), ((u.out.cell (World.block_lt_of_cell? w _ o)).trans o), ((u.out.cell (World.block_lt_of_cell? w _ t)).trans t), ((u.out.cell (World.block_lt_of_cell? w _ s)).trans s)⟩ (fun j => ?_); refine with_tabW spec_SetOk.tab4 spec_SetOk.bits4 (fun l J => ?_)
       generalize wr.drew = na at u b c m v q x j ⊢
       iterate 3 refine p_ l ?_
       refine t0_ l J j ?_
       refine o1_ 4 (b_ 5 20) l (fun K Q => ?_)
       refine gs_ Tryz.func136 #[.agg #[.string ((rd_T99 l0 a).f0), .string ((rd_T99 l0 a).f1)]] ?_
       with_reducible refine (spec_LabelOk.calls U ((rd_T99 l0 a).f0) ((rd_T99 l0 a).f1) true _ Z.out).mono ?_
       rintro e oa ⟨rfl, hb⟩
       refine ⟨_, rfl, ?_⟩
       replace u := st_ u hb
       (try clear hb)
       (try clear hk)
       refine ho_ Q ⟨((u.out.cell (World.block_lt_of_cell? w _ g)).trans g), ((u.out.cell (World.block_lt_of_cell? w _ d)).trans d), ((u.out.cell (World.block_lt_of_cell? w _ p)).trans p), ((u.out.cell (World.block_lt_of_cell? w _ o)).trans o), ((u.out.cell (World.block_lt_of_cell? w _ t)).trans t), ((u.out.cell (World.block_lt_of_cell? w _ s)).trans s)⟩ (fun j => ?_)
       iterate 10 refine p_ l ?_
       refine qw_ 16 (m_ 25 98303) l ?_
       refine qw_ 17 (m_ 25 229375) l ?_
       refine qw_ 18 (m_ 25 491519) l ?_
       refine qw_ 19 (m_ 25 1015807) l ?_
       refine qt_ 15 (b_ 20 5) l J j ?_
       refine t0_ l J j ?_
       refine o1_ 21 (b_ 22 3) l (fun K Q => ?_)
       refine goes_ Tryz.func128 (by kernel_rfl) rfl #[.string ((rd_T99 l0 (y)).f0), .string ((rd_T99 l0 a).f0)] (by rfl) rfl rfl (by (try simp only [mp_]); first | done | (simp only [B]; rfl) | rfl | (simp only [List.length_drop, List.length_take]; rfl)) ?_
       with_reducible refine (spec_Less.calls ((rd_T99 l0 (y)).f0) ((rd_T99 l0 a).f0) true _ ca.out).mono ?_
       rintro e w' ⟨rfl, ⟨nd, rfl⟩⟩
       refine ⟨_, rfl, ?_⟩
       refine ho_ Q ⟨((u.out.cell (World.block_lt_of_cell? w _ g)).trans g), ((u.out.cell (World.block_lt_of_cell? w _ d)).trans d), ((u.out.cell (World.block_lt_of_cell? w _ p)).trans p), ((u.out.cell (World.block_lt_of_cell? w _ o)).trans o), ((u.out.cell (World.block_lt_of_cell? w _ t)).trans t), ((u.out.cell (World.block_lt_of_cell? w _ s)).trans s)⟩ (fun j => ?_)
       iterate 3 refine p_ l ?_
       refine done_ (done_of l.out (by kernel_rfl)) ?_
       try go_wp2
       go_roundg U
       case measure => have := R.out; omega
       case rel => exact ⟨(wrap64 (a + 1)), rs_, H', ⟨by have := R.out; omega⟩, ⟨hs_ u.out⟩⟩
      obtain rfl := Option.some.inj H
      try go_wp2
      replace u := Aside0.mk (bd_ u.out)
      obtain ⟨z, A⟩ : 0 ≤ (a : Int) ∧ a < (l0.length : Int) := pq_
      obtain ⟨i, D, b, c⟩ := at_T99 L.out a z A
      have d := c
      have g := b
      cases D
      replace b := c2_ u b c; clear c; obtain ⟨b, c⟩ := b
      replace z := eq_true z; replace A := eq_true A
      obtain ⟨E, F⟩ : 0 ≤ ((y) : Int) ∧ (y) < (l0.length : Int) := pq_
      obtain ⟨M, O, m, v⟩ := at_T99 L.out (y) E F
      have o := v
      have p := m
      obtain rfl : i = M := (by injection O)
      replace m := c2_ u m v; clear v; obtain ⟨m, v⟩ := m
      replace E := eq_true E; replace F := eq_true F
      obtain ⟨G, I⟩ : 0 ≤ (a : Int) ∧ a < (l0.length : Int) := pq_
      obtain ⟨N, P, q, x⟩ := at_T99 L.out a G I
      have s := x
      have t := q
      obtain rfl : i = N := (by injection P)
      replace q := c2_ u q x; clear x; obtain ⟨q, x⟩ := q
      replace G := eq_true G; replace I := eq_true I
      refine start_ (n := 25) (S := fun w' => w'.cell? (i.add ((a).toNat * 2)) = some (.string ((rd_T99 l0 a).f0)) ∧ w'.cell? ⟨(i.add ((a).toNat * 2)).block, (i.add ((a).toNat * 2)).off + 1, none⟩ = some (.string ((rd_T99 l0 a).f1)) ∧ w'.cell? (i.add (((y)).toNat * 2)) = some (.string ((rd_T99 l0 (y)).f0)) ∧ w'.cell? ⟨(i.add (((y)).toNat * 2)).block, (i.add (((y)).toNat * 2)).off + 1, none⟩ = some (.string ((rd_T99 l0 (y)).f1)) ∧ w'.cell? (i.add ((a).toNat * 2)) = some (.string ((rd_T99 l0 a).f0)) ∧ w'.cell? ⟨(i.add ((a).toNat * 2)).block, (i.add ((a).toNat * 2)).off + 1, none⟩ = some (.string ((rd_T99 l0 a).f1))) (ds := []) (b_ 0 25) (by kernel_rfl) rfl rfl ⟨((u.out.cell (World.block_lt_of_cell? w _ g)).trans g), ((u.out.cell (World.block_lt_of_cell? w _ d)).trans d), ((u.out.cell (World.block_lt_of_cell? w _ p)).trans p), ((u.out.cell (World.block_lt_of_cell? w _ o)).trans o), ((u.out.cell (World.block_lt_of_cell? w _ t)).trans t), ((u.out.cell (World.block_lt_of_cell? w _ s)).trans s)⟩ (fun j => ?_); refine with_tabW spec_SetOk.tab4 spec_SetOk.bits4 (fun l J => ?_)
      generalize wr.drew = qa at u b c m v q x j ⊢
      iterate 3 refine p_ l ?_
      refine t0_ l J j ?_
      refine o1_ 4 (b_ 5 20) l (fun K Q => ?_)
      refine gs_ Tryz.func136 #[.agg #[.string ((rd_T99 l0 a).f0), .string ((rd_T99 l0 a).f1)]] ?_
      with_reducible refine (spec_LabelOk.calls U ((rd_T99 l0 a).f0) ((rd_T99 l0 a).f1) true _ Z.out).mono ?_
      rintro e ra ⟨rfl, hb⟩
      refine ⟨_, rfl, ?_⟩
      replace u := st_ u hb
      (try clear hb)
      (try clear hk)
      refine ho_ Q ⟨((u.out.cell (World.block_lt_of_cell? w _ g)).trans g), ((u.out.cell (World.block_lt_of_cell? w _ d)).trans d), ((u.out.cell (World.block_lt_of_cell? w _ p)).trans p), ((u.out.cell (World.block_lt_of_cell? w _ o)).trans o), ((u.out.cell (World.block_lt_of_cell? w _ t)).trans t), ((u.out.cell (World.block_lt_of_cell? w _ s)).trans s)⟩ (fun j => ?_)
      iterate 10 refine p_ l ?_
      refine qw_ 16 (m_ 25 98303) l ?_
      refine qw_ 17 (m_ 25 229375) l ?_
      refine qw_ 18 (m_ 25 491519) l ?_
      refine qw_ 19 (m_ 25 1015807) l ?_
      refine qt_ 15 (b_ 20 5) l J j ?_
      refine t0_ l J j ?_
      refine o1_ 21 (b_ 22 3) l (fun K Q => ?_)
      refine goes_ Tryz.func128 (by kernel_rfl) rfl #[.string ((rd_T99 l0 (y)).f0), .string ((rd_T99 l0 a).f0)] (by rfl) rfl rfl (by (try simp only [mp_]); first | done | (simp only [B]; rfl) | rfl | (simp only [List.length_drop, List.length_take]; rfl)) ?_
      with_reducible refine (spec_Less.calls ((rd_T99 l0 (y)).f0) ((rd_T99 l0 a).f0) false _ ca.out).mono ?_
      rintro e w' ⟨rfl, ⟨nd, rfl⟩⟩
      refine ⟨_, rfl, ?_⟩
      refine ho_ Q ⟨((u.out.cell (World.block_lt_of_cell? w _ g)).trans g), ((u.out.cell (World.block_lt_of_cell? w _ d)).trans d), ((u.out.cell (World.block_lt_of_cell? w _ p)).trans p), ((u.out.cell (World.block_lt_of_cell? w _ o)).trans o), ((u.out.cell (World.block_lt_of_cell? w _ t)).trans t), ((u.out.cell (World.block_lt_of_cell? w _ s)).trans s)⟩ (fun j => ?_)
      iterate 3 refine p_ l ?_
      refine done_ (done_of l.out (by kernel_rfl)) ?_
      try go_wp2
      go_ret
      exact ⟨by first | rfl | (simp [errW_none, errW_some] <;> rfl) | (simp only [← B]; first | rfl | (simp [errW_none, errW_some] <;> rfl)) | (simp [*, errW_none, errW_some] <;> rfl), hs_ u.out⟩
     have ba : decide (0 < a) = false := decide_eq_false c6
     clear c6
     have H' := Aside0.mk H
     clear H
     try go_wp2
     replace u := Aside0.mk (bd_ u.out)
     obtain ⟨z, A⟩ : 0 ≤ (a : Int) ∧ a < (l0.length : Int) := pq_
     obtain ⟨i, D, b, c⟩ := at_T99 L.out a z A
     have d := c
     have g := b
     cases D
     replace b := c2_ u b c; clear c; obtain ⟨b, c⟩ := b
     replace z := eq_true z; replace A := eq_true A
     refine start_ (n := 25) (S := fun w' => w'.cell? (i.add ((a).toNat * 2)) = some (.string ((rd_T99 l0 a).f0)) ∧ w'.cell? ⟨(i.add ((a).toNat * 2)).block, (i.add ((a).toNat * 2)).off + 1, none⟩ = some (.string ((rd_T99 l0 a).f1))) (ds := []) (b_ 0 25) (by kernel_rfl) rfl rfl ⟨((u.out.cell (World.block_lt_of_cell? w _ g)).trans g), ((u.out.cell (World.block_lt_of_cell? w _ d)).trans d)⟩ (fun j => ?_); refine with_tabW spec_SetOk.tab4 spec_SetOk.bits4 (fun l J => ?_)
     generalize wr.drew = sa at u b c j ⊢
     iterate 3 refine p_ l ?_
     refine t0_ l J j ?_
     refine o1_ 4 (b_ 5 20) l (fun K Q => ?_)
     refine gs_ Tryz.func136 #[.agg #[.string ((rd_T99 l0 a).f0), .string ((rd_T99 l0 a).f1)]] ?_
     with_reducible refine (spec_LabelOk.calls U ((rd_T99 l0 a).f0) ((rd_T99 l0 a).f1) true _ Z.out).mono ?_
     rintro e ta ⟨rfl, hb⟩
     refine ⟨_, rfl, ?_⟩
     replace u := st_ u hb
     (try clear hb)
     (try clear hk)
     refine ho_ Q ⟨((u.out.cell (World.block_lt_of_cell? w _ g)).trans g), ((u.out.cell (World.block_lt_of_cell? w _ d)).trans d)⟩ (fun j => ?_)
     iterate 5 refine p_ l ?_
     iterate 13 refine v_ l ?_
     iterate 2 refine p_ l ?_
     refine done_ (done_of l.out (by kernel_rfl)) ?_
     try go_wp2
     go_roundg U
     case measure => have := R.out; omega
     case rel => exact ⟨(wrap64 (a + 1)), rs_, H', ⟨by have := R.out; omega⟩, ⟨hs_ u.out⟩⟩
    obtain rfl := Option.some.inj H
    try go_wp2
    replace u := Aside0.mk (bd_ u.out)
    obtain ⟨z, A⟩ : 0 ≤ (a : Int) ∧ a < (l0.length : Int) := pq_
    obtain ⟨i, D, b, c⟩ := at_T99 L.out a z A
    have d := c
    have g := b
    cases D
    replace b := c2_ u b c; clear c; obtain ⟨b, c⟩ := b
    replace z := eq_true z; replace A := eq_true A
    refine start_ (n := 25) (S := fun w' => w'.cell? (i.add ((a).toNat * 2)) = some (.string ((rd_T99 l0 a).f0)) ∧ w'.cell? ⟨(i.add ((a).toNat * 2)).block, (i.add ((a).toNat * 2)).off + 1, none⟩ = some (.string ((rd_T99 l0 a).f1))) (ds := []) (b_ 0 25) (by kernel_rfl) rfl rfl ⟨((u.out.cell (World.block_lt_of_cell? w _ g)).trans g), ((u.out.cell (World.block_lt_of_cell? w _ d)).trans d)⟩ (fun j => ?_); refine with_tabW spec_SetOk.tab4 spec_SetOk.bits4 (fun l J => ?_)
    generalize wr.drew = ua at u b c j ⊢
    iterate 3 refine p_ l ?_
    refine t0_ l J j ?_
    refine o1_ 4 (b_ 5 20) l (fun K Q => ?_)
    refine gs_ Tryz.func136 #[.agg #[.string ((rd_T99 l0 a).f0), .string ((rd_T99 l0 a).f1)]] ?_
    with_reducible refine (spec_LabelOk.calls U ((rd_T99 l0 a).f0) ((rd_T99 l0 a).f1) false _ Z.out).mono ?_
    rintro e va ⟨rfl, hb⟩
    refine ⟨_, rfl, ?_⟩
    replace u := st_ u hb
    (try clear hb)
    (try clear hk)
    refine ho_ Q ⟨((u.out.cell (World.block_lt_of_cell? w _ g)).trans g), ((u.out.cell (World.block_lt_of_cell? w _ d)).trans d)⟩ (fun j => ?_)
    iterate 2 refine p_ l ?_
    iterate 17 refine v_ l ?_
    refine p_ l ?_
    refine done_ (done_of l.out (by kernel_rfl)) ?_
    try go_wp2
    go_ret
    exact an_ (hs_ u.out)
   have Y : decide (a < (l0.length : Int)) = false := decide_eq_false X
   clear X
   obtain rfl := Option.some.inj H
   go_wp2
   go_ret
   exact an_ (hs_ u.out)
def spec_SetText.l0 : Nat → List (S99) → ByteArray → Int → Option (ByteArray)
 | 0, _, _, _ => none
 | k + 1, x0, x3, x4 => if x4 < (x0.length : Int) then (if x4 > 0 then (if x3.size + 2 ≤ 9223372036854775807 then (if 0 ≤ x4 then (if (x3 ++ (⟨#[44, 32]⟩ : ByteArray)).size + ((rd_T99 x0 x4).f0).size ≤ 9223372036854775807 then (if ((x3 ++ (⟨#[44, 32]⟩ : ByteArray)) ++ ((rd_T99 x0 x4).f0)).size + 2 ≤ 9223372036854775807 then (if (((x3 ++ (⟨#[44, 32]⟩ : ByteArray)) ++ ((rd_T99 x0 x4).f0)) ++ (⟨#[61, 34]⟩ : ByteArray)).size + ((rd_T99 x0 x4).f1).size ≤ 9223372036854775807 then (if ((((x3 ++ (⟨#[44, 32]⟩ : ByteArray)) ++ ((rd_T99 x0 x4).f0)) ++ (⟨#[61, 34]⟩ : ByteArray)) ++ ((rd_T99 x0 x4).f1)).size + 1 ≤ 9223372036854775807 then (spec_SetText.l0 k x0 (((((x3 ++ (⟨#[44, 32]⟩ : ByteArray)) ++ ((rd_T99 x0 x4).f0)) ++ (⟨#[61, 34]⟩ : ByteArray)) ++ ((rd_T99 x0 x4).f1)) ++ (⟨#[34]⟩ : ByteArray)) (wrap64 (x4 + 1))) else (none)) else (none)) else (none)) else (none)) else (none)) else (none)) else (if 0 ≤ x4 then (if x3.size + ((rd_T99 x0 x4).f0).size ≤ 9223372036854775807 then (if (x3 ++ ((rd_T99 x0 x4).f0)).size + 2 ≤ 9223372036854775807 then (if ((x3 ++ ((rd_T99 x0 x4).f0)) ++ (⟨#[61, 34]⟩ : ByteArray)).size + ((rd_T99 x0 x4).f1).size ≤ 9223372036854775807 then (if (((x3 ++ ((rd_T99 x0 x4).f0)) ++ (⟨#[61, 34]⟩ : ByteArray)) ++ ((rd_T99 x0 x4).f1)).size + 1 ≤ 9223372036854775807 then (spec_SetText.l0 k x0 ((((x3 ++ ((rd_T99 x0 x4).f0)) ++ (⟨#[61, 34]⟩ : ByteArray)) ++ ((rd_T99 x0 x4).f1)) ++ (⟨#[34]⟩ : ByteArray)) (wrap64 (x4 + 1))) else (none)) else (none)) else (none)) else (none)) else (none))) else (if x3.size + 1 ≤ 9223372036854775807 then (some (x3 ++ (⟨#[125]⟩ : ByteArray))) else (none))
def spec_SetText.f (k : Nat) (l0 : List (S99)) : Option (ByteArray) := (spec_SetOk.f k l0).bind fun t183 => (if t183 = true then (spec_SetText.l0 k l0 (⟨#[123]⟩ : ByteArray) 0) else (some (⟨#[]⟩ : ByteArray)))
theorem spec_SetText.calls (k : Nat) (A0 : Option Addr) (c0 : Nat) (l0 : List (S99)) (r : ByteArray) (w : World) (Z : Kd.C k99 w A0 l0.length l0) (aa : l0.length ≤ c0) (h : spec_SetText.f k l0 = some r) :
  Calls Tryz.prog 99 #[.slice A0 l0.length c0] w fun e w' => e = .returned (.string r) ∧ Below w.heap.size w w' := by
 have p := Aside0.mk Z
 have y := Aside0.mk aa
 clear Z aa
 have o := Aside0.mk (Below.refl w.heap.size w)
 have H : ((spec_SetOk.f k l0).bind fun R => (if R = true then (spec_SetText.l0 k l0 (⟨#[123]⟩ : ByteArray) 0) else (some (⟨#[]⟩ : ByteArray)))) = some r := h
 clear h
 replace H := bi_ H; obtain ⟨R, Y, H⟩ := H
 replace H := ib_ H; rcases H with ⟨rfl, H⟩ | ⟨rfl, H⟩
 ·
  have H' := Aside0.mk H
  clear H
  go_enter Tryz.func99, Tryz.ntmps99
  go_wp2_with (first | (go_at_call 118; (with_reducible refine (spec_SetOk.calls k _ _ l0 true _ ?side1 ?side2 Y.out).mono ?_); (case side1 => exact cp_ (p.out)); (case side2 => exact y.out); rintro e w4 ⟨rfl, hb⟩; replace o := st_ o hb; (try clear hb); (try clear hk)))
  repeat (go_quiet (first | (go_at_call 118; (with_reducible refine (spec_SetOk.calls k _ _ l0 true _ ?side1 ?side2 Y.out).mono ?_); (case side1 => exact cp_ (p.out)); (case side2 => exact y.out); rintro e w4 ⟨rfl, hb⟩; replace o := st_ o hb; (try clear hb); (try clear hk))); try go_wp2_with (first | (go_at_call 118; (with_reducible refine (spec_SetOk.calls k _ _ l0 true _ ?side1 ?side2 Y.out).mono ?_); (case side1 => exact cp_ (p.out)); (case side2 => exact y.out); rintro e w4 ⟨rfl, hb⟩; replace o := st_ o hb; (try clear hb); (try clear hk))))
  go_loopg [3, 4] k (fun kq v3 v4 w' => ∃ (b : ByteArray) (a : Int), v3 = .string b ∧ v4 = .int .i64 a ∧ Aside0 (spec_SetText.l0 kq l0 b a = some r) ∧ Aside0 (kq ≤ k) ∧ Aside0 (Below w.heap.size w w'))
  case atStart => exact ⟨((⟨#[123]⟩ : ByteArray)), (0), rs_, rs_, H', ⟨Nat.le_refl _⟩, ⟨hs_ o.out⟩⟩
  case round =>
   clear H'
   obtain ⟨b, a, rfl, rfl, HA, K, o⟩ := hrel
   cases gk with
   | zero => exact absurd HA.out (by simp [spec_SetText.l0])
   | succ k1 =>
    have H := HA.out
    clear HA
    simp only [spec_SetText.l0] at H
    replace H := ie_ H; rcases H with ⟨c5, H⟩ | ⟨c5, H⟩
    ·
     have ca := decide_eq_true c5
     clear c5
     replace H := ie_ H; rcases H with ⟨c6, H⟩ | ⟨c6, H⟩
     ·
      have ea : decide (0 < a) = true := decide_eq_true c6
      clear c6
      replace H := in_ H; obtain ⟨c7, H⟩ := H
      have jb := eq_true c7
      have kb := decide_eq_true c7
      try have lb : (9223372036854775807 < b.size + 2) = False := eq_false (Nat.not_lt.2 c7)
      replace H := id_ H; obtain ⟨mb, H⟩ := H
      replace H := in_ H; obtain ⟨c9, H⟩ := H
      have nb := eq_true c9
      have ob := decide_eq_true c9
      try have pb : (9223372036854775807 < (b ++ (⟨#[44, 32]⟩ : ByteArray)).size + ((rd_T99 l0 a).f0).size) = False := eq_false (Nat.not_lt.2 c9)
      have z := c9
      simp only [ByteArray.size_append, show (⟨#[44, 32]⟩ : ByteArray).size = 2 from rfl] at z
      have qb := eq_false (Nat.not_lt.2 z)
      have rb := decide_eq_true z
      have sb := eq_true z
      clear z
      replace H := in_ H; obtain ⟨L, H⟩ := H
      have na := eq_true L
      have oa := decide_eq_true L
      try have pa : (9223372036854775807 < ((b ++ (⟨#[44, 32]⟩ : ByteArray)) ++ ((rd_T99 l0 a).f0)).size + 2) = False := eq_false (Nat.not_lt.2 L)
      have q := L
      simp only [ByteArray.size_append, show (⟨#[44, 32]⟩ : ByteArray).size = 2 from rfl] at q
      have qa := eq_false (Nat.not_lt.2 q)
      have ra := decide_eq_true q
      have sa := eq_true q
      clear q
      replace H := in_ H; obtain ⟨M, H⟩ := H
      have ta := eq_true M
      have ua := decide_eq_true M
      try have va : (9223372036854775807 < (((b ++ (⟨#[44, 32]⟩ : ByteArray)) ++ ((rd_T99 l0 a).f0)) ++ (⟨#[61, 34]⟩ : ByteArray)).size + ((rd_T99 l0 a).f1).size) = False := eq_false (Nat.not_lt.2 M)
      have s := M
      simp only [ByteArray.size_append, show (⟨#[44, 32]⟩ : ByteArray).size = 2 from rfl, show (⟨#[61, 34]⟩ : ByteArray).size = 2 from rfl] at s
      have wa := eq_false (Nat.not_lt.2 s)
      have xa := decide_eq_true s
      have ya := eq_true s
      clear s
      replace H := in_ H; obtain ⟨N, H⟩ := H
      have za := eq_true N
      have Aa := decide_eq_true N
      try have Ba : (9223372036854775807 < ((((b ++ (⟨#[44, 32]⟩ : ByteArray)) ++ ((rd_T99 l0 a).f0)) ++ (⟨#[61, 34]⟩ : ByteArray)) ++ ((rd_T99 l0 a).f1)).size + 1) = False := eq_false (Nat.not_lt.2 N)
      have t := N
      simp only [ByteArray.size_append, show (⟨#[44, 32]⟩ : ByteArray).size = 2 from rfl, show (⟨#[61, 34]⟩ : ByteArray).size = 2 from rfl] at t
      have Ca := eq_false (Nat.not_lt.2 t)
      have Da := decide_eq_true t
      have Ea := eq_true t
      clear t
      have H' := Aside0.mk H
      clear H
      obtain ⟨A, B⟩ : 0 ≤ (a : Int) ∧ a < (l0.length : Int) := pq_
      obtain ⟨S, fa, c, j⟩ := at_T99 p.out a A B
      cases fa
      replace c := c2_ o c j; clear j; obtain ⟨c, j⟩ := c
      replace A := eq_true A; replace B := eq_true B
      obtain ⟨D, E⟩ : 0 ≤ (a : Int) ∧ a < (l0.length : Int) := pq_
      obtain ⟨T, ga, d, l⟩ := at_T99 p.out a D E
      obtain rfl : S = T := (by injection ga)
      replace d := c2_ o d l; clear l; obtain ⟨d, l⟩ := d
      replace D := eq_true D; replace E := eq_true E
      go_wp2
      repeat (go_quiet (fail); try go_wp2)
      go_roundg k1
      case measure => have := K.out; omega
      case rel => exact ⟨(((((b ++ (⟨#[44, 32]⟩ : ByteArray)) ++ ((rd_T99 l0 a).f0)) ++ (⟨#[61, 34]⟩ : ByteArray)) ++ ((rd_T99 l0 a).f1)) ++ (⟨#[34]⟩ : ByteArray)), (wrap64 (a + 1)), rs_, rs_, H', ⟨by have := K.out; omega⟩, ⟨hs_ o.out⟩⟩
     have ea : decide (0 < a) = false := decide_eq_false c6
     clear c6
     replace H := id_ H; obtain ⟨Fa, H⟩ := H
     replace H := in_ H; obtain ⟨U, H⟩ := H
     have Ga := eq_true U
     have Ha := decide_eq_true U
     try have Ia : (9223372036854775807 < b.size + ((rd_T99 l0 a).f0).size) = False := eq_false (Nat.not_lt.2 U)
     replace H := in_ H; obtain ⟨O, H⟩ := H
     have Ja := eq_true O
     have Ka := decide_eq_true O
     try have La : (9223372036854775807 < (b ++ ((rd_T99 l0 a).f0)).size + 2) = False := eq_false (Nat.not_lt.2 O)
     have u := O
     simp only [ByteArray.size_append] at u
     have Ma := eq_false (Nat.not_lt.2 u)
     have Na := decide_eq_true u
     have Oa := eq_true u
     clear u
     replace H := in_ H; obtain ⟨P, H⟩ := H
     have Pa := eq_true P
     have Qa := decide_eq_true P
     try have Ra : (9223372036854775807 < ((b ++ ((rd_T99 l0 a).f0)) ++ (⟨#[61, 34]⟩ : ByteArray)).size + ((rd_T99 l0 a).f1).size) = False := eq_false (Nat.not_lt.2 P)
     have v := P
     simp only [ByteArray.size_append, show (⟨#[61, 34]⟩ : ByteArray).size = 2 from rfl] at v
     have Sa := eq_false (Nat.not_lt.2 v)
     have Ta := decide_eq_true v
     have Ua := eq_true v
     clear v
     replace H := in_ H; obtain ⟨Q, H⟩ := H
     have Va := eq_true Q
     have Wa := decide_eq_true Q
     try have Xa : (9223372036854775807 < (((b ++ ((rd_T99 l0 a).f0)) ++ (⟨#[61, 34]⟩ : ByteArray)) ++ ((rd_T99 l0 a).f1)).size + 1) = False := eq_false (Nat.not_lt.2 Q)
     have x := Q
     simp only [ByteArray.size_append, show (⟨#[61, 34]⟩ : ByteArray).size = 2 from rfl] at x
     have Ya := eq_false (Nat.not_lt.2 x)
     have Za := decide_eq_true x
     have ab := eq_true x
     clear x
     have H' := Aside0.mk H
     clear H
     obtain ⟨F, G⟩ : 0 ≤ (a : Int) ∧ a < (l0.length : Int) := pq_
     obtain ⟨V, ha, g, m⟩ := at_T99 p.out a F G
     cases ha
     replace g := c2_ o g m; clear m; obtain ⟨g, m⟩ := g
     replace F := eq_true F; replace G := eq_true G
     obtain ⟨I, J⟩ : 0 ≤ (a : Int) ∧ a < (l0.length : Int) := pq_
     obtain ⟨W, ia, i, n⟩ := at_T99 p.out a I J
     obtain rfl : V = W := (by injection ia)
     replace i := c2_ o i n; clear n; obtain ⟨i, n⟩ := i
     replace I := eq_true I; replace J := eq_true J
     go_wp2
     repeat (go_quiet (fail); try go_wp2)
     go_roundg k1
     case measure => have := K.out; omega
     case rel => exact ⟨((((b ++ ((rd_T99 l0 a).f0)) ++ (⟨#[61, 34]⟩ : ByteArray)) ++ ((rd_T99 l0 a).f1)) ++ (⟨#[34]⟩ : ByteArray)), (wrap64 (a + 1)), rs_, rs_, H', ⟨by have := K.out; omega⟩, ⟨hs_ o.out⟩⟩
    have ca : decide (a < (l0.length : Int)) = false := decide_eq_false c5
    clear c5
    replace H := in_ H; obtain ⟨X, H⟩ := H
    have bb := eq_true X
    have cb := decide_eq_true X
    try have db : (9223372036854775807 < b.size + 1) = False := eq_false (Nat.not_lt.2 X)
    obtain rfl := Option.some.inj H
    go_wp2
    repeat (go_quiet (fail); try go_wp2)
    go_ret
    exact an_ (hs_ o.out)
 obtain rfl := Option.some.inj H
 go_enter Tryz.func99, Tryz.ntmps99
 go_wp2_with (first | (go_at_call 118; (with_reducible refine (spec_SetOk.calls k _ _ l0 false _ ?side1 ?side2 Y.out).mono ?_); (case side1 => exact cp_ (p.out)); (case side2 => exact y.out); rintro e ja ⟨rfl, hb⟩; replace o := st_ o hb; (try clear hb); (try clear hk)))
 repeat (go_quiet (first | (go_at_call 118; (with_reducible refine (spec_SetOk.calls k _ _ l0 false _ ?side1 ?side2 Y.out).mono ?_); (case side1 => exact cp_ (p.out)); (case side2 => exact y.out); rintro e ja ⟨rfl, hb⟩; replace o := st_ o hb; (try clear hb); (try clear hk))); try go_wp2_with (first | (go_at_call 118; (with_reducible refine (spec_SetOk.calls k _ _ l0 false _ ?side1 ?side2 Y.out).mono ?_); (case side1 => exact cp_ (p.out)); (case side2 => exact y.out); rintro e ja ⟨rfl, hb⟩; replace o := st_ o hb; (try clear hb); (try clear hk))))
 go_ret
 exact an_ (hs_ o.out)
def spec_Finger.f (k : Nat) (l0 : List (S99)) : Option (Int) := (spec_SetText.f k l0).bind fun t188 => ((spec_Sum.f k t188).bind fun t189 => (some (Int.tmod (Go.bits .xor .i64 t189 (t189 / 65536)) 32)))
theorem spec_Finger.calls (k : Nat) (i : Option Addr) (j : Nat) (c : List (S99)) (r : Int) (w : World) (d : Kd.C k99 w i c.length c) (g : c.length ≤ j) (h : spec_Finger.f k c = some r) :
  Calls Tryz.prog 60 #[.slice i c.length j] w fun e w' => e = .returned (.int .i64 r) ∧ Below w.heap.size w w' := by
 have l := Aside0.mk d
 have m := Aside0.mk g
 clear d g
 have n := Aside0.mk (Below.refl w.heap.size w)
 have H : ((spec_SetText.f k c).bind fun a => ((spec_Sum.f k a).bind fun b => (some (Int.tmod (Go.bits .xor .i64 b (b / 65536)) 32)))) = some r := h
 clear h
 replace H := bi_ H; obtain ⟨a, o, H⟩ := H
 replace H := bi_ H; obtain ⟨b, p, H⟩ := H
 obtain rfl := Option.some.inj H
 go_enter Tryz.func60, Tryz.ntmps60
 go_wp2_with (first | ((with_reducible refine gate_callee (f := 99) rfl ?_); refine gl_ (some 5) Tryz.func99 #[.slice i c.length j] ?_; (with_reducible refine (spec_SetText.calls k _ _ c a _ ?side1 ?side2 o.out).mono ?_); (case side1 => exact cp_ (l.out)); (case side2 => exact m.out); rintro e q ⟨rfl, hb⟩; refine ⟨_, rfl, ?_⟩; replace n := st_ n hb; (try clear hb); (try clear hk)) | ((with_reducible refine gate_callee (f := 98) rfl ?_); refine gl_ (some 6) Tryz.func98 #[.string a] ?_; (with_reducible refine (spec_Sum.calls k a b _ p.out).mono ?_); rintro e w' ⟨rfl, ⟨s, rfl⟩⟩; refine ⟨_, rfl, ?_⟩))
 go_ret
 exact an_ (hs_ n.out)
def spec_l7At.l0 : Nat → Int → Int → Int → Int → List (S80) → Option (Int)
 | 0, _, _, _, _, _ => none
 | k + 1, x1, x5, x191000, x191001, x191002 => if x5 < (x191002.length : Int) then (if 0 ≤ x5 then (if ((rd_T80 x191002 x5).f0) = x1 then (some x5) else (spec_l7At.l0 k x1 (wrap64 (x5 + 1)) x191000 x191001 x191002)) else (none)) else (some (-1))
def spec_l7At.f (k : Nat) (a0_0 : Int) (a0_1 : Int) (l0_2 : List (S80)) (a1 : Int) : Option (Int) := spec_l7At.l0 k a1 0 a0_0 a0_1 l0_2
theorem spec_l7At.calls (k : Nat) (i : Int) (j : Int) (n : Option Addr) (o : Nat) (a : List (S80)) (v : Int) (r : Int) (w : World) (p : Kd.C k80 w n a.length a) (q : a.length ≤ o) (h : spec_l7At.f k i j a v = some r) :
  Calls Tryz.prog 61 #[.agg #[.int .i64 i, .int .i64 j, .slice n a.length o], .int .i64 v] w fun e w' => e = .returned (.int .i64 r) ∧ Below w.heap.size w w' := by
 have hu26 := Tryz.underlying26
 have y := Aside0.mk p
 have O := Aside0.mk q
 clear p q
 have u := Aside0.mk (Below.refl w.heap.size w)
 have H : (spec_l7At.l0 k v 0 i j a) = some r := h
 clear h
 have H' := Aside0.mk H
 clear H
 go_enter Tryz.func61, Tryz.ntmps61
 go_wp2_with (first | ((with_reducible refine gd_ 2 rfl ?_); refine bv_ 2 #[.int .i64 i, .int .i64 j, .slice n a.length o] 26 ?_; intro z hg w3 x hb; have d := Aside0.mk (x); have A := gq_ hg u; replace u := st_ u hb; have P := Ge_.mk A.out; clear hb x hg))
 go_loopg [5] k (fun kq v5 w' => ∃ (b : Int), v5 = .int .i64 b ∧ Aside0 (spec_l7At.l0 kq v b i j a = some r) ∧ Aside0 (kq ≤ k) ∧ Aside0 (w'.heap[z]? = some (.cells #[.int .i64 i, .int .i64 j, (.slice n a.length o)] 26 (0, 0))) ∧ Aside0 (Below w.heap.size w w'))
 case atStart => exact ⟨(0), rs_, H', ⟨Nat.le_refl _⟩, ⟨bq_ d.out⟩, ⟨hs_ u.out⟩⟩
 case round =>
  clear H'
  obtain ⟨b, rfl, Q, D, d, u⟩ := hrel
  cases gk with
  | zero => exact absurd Q.out (by simp [spec_l7At.l0])
  | succ k1 =>
   have H := Q.out
   clear Q
   simp only [spec_l7At.l0] at H
   replace H := ie_ H; rcases H with ⟨E, H⟩ | ⟨E, H⟩
   ·
    have F := decide_eq_true E
    clear E
    replace H := id_ H; obtain ⟨S, H⟩ := H
    have AHz_ := Aside0.mk H
    clear H
    obtain ⟨T, U, V, W, X, Y⟩ := bc3_ d.out
    obtain ⟨s, t⟩ : 0 ≤ (b : Int) ∧ b < (a.length : Int) := pq_
    obtain ⟨R, M, N, G, c, g, l, m⟩ := at_T80 y.out b s t
    cases G
    replace c := c2_ u c g; clear g; obtain ⟨c, g⟩ := c
    have I := Aside0.mk m
    have J := Aside0.mk l
    clear m l
    replace s := eq_true s; replace t := eq_true t
    have H := AHz_.out
    clear AHz_
    replace H := ie_ H; rcases H with ⟨B, H⟩ | ⟨B, H⟩
    ·
     have K : (((rd_T80 a b).f0) == v) = true := beq_iff_eq.mpr B
     have L : (((rd_T80 a b).f0) != v) = false := bne_eq_false_iff_eq.mpr B
     clear B
     obtain rfl := Option.some.inj H
     go_wp2
     go_ret
     exact an_ (hs_ u.out)
    have K : (((rd_T80 a b).f0) == v) = false := beq_eq_false_iff_ne.mpr B
    have L : (((rd_T80 a b).f0) != v) = true := bne_iff_ne.mpr B
    have H' := Aside0.mk H
    clear H
    go_wp2
    go_roundg k1
    case measure => have := D.out; omega
    case rel => exact ⟨(wrap64 (b + 1)), rs_, H', ⟨by have := D.out; omega⟩, ⟨bq_ d.out⟩, ⟨hs_ u.out⟩⟩
   have F : decide (b < (a.length : Int)) = false := decide_eq_false E
   clear E
   obtain rfl := Option.some.inj H
   obtain ⟨Z, aa, ba, ca, da, ea⟩ := bc3_ d.out
   go_wp2
   go_ret
   exact an_ (hs_ u.out)
end Go.Proofs.YtanfohlpkppeiaaGreat.Print
end
section
namespace Go.Proofs.YtanfohlpkppeiaaGreat.Print
open Go.RowKit Go.Proofs.YtanfohlpkppeiaaGreatV.PrintWords Go.Proofs.YtanfohlpkppeiaaGreatV.PrintLast Go.Proofs.YtanfohlpkppeiaaGreatV.PrintMore
attribute [local go_sem] max2_int min2_int max_two min_two max_three min_three max_four min_four
set_option linter.unusedVariables false
set_option linter.unusedSimpArgs false

attribute [local go_sem high] eqA99
set_option maxHeartbeats 8000000
set_option maxRecDepth 100000
def spec_SameSet.l0 : Nat → List (S99) → List (S99) → Int → Option (Bool)
 | 0, _, _, _ => none
 | k + 1, x0, x1, x5 => if x5 < (x0.length : Int) then (if 0 ≤ x5 then (if x5 < (x1.length : Int) then (if (!((((rd_T99 x0 x5).f0).toList) == (((rd_T99 x1 x5).f0).toList)) || (!((((rd_T99 x0 x5).f1).toList) == (((rd_T99 x1 x5).f1).toList)))) = true then (some false) else (spec_SameSet.l0 k x0 x1 (wrap64 (x5 + 1)))) else (none)) else (none)) else (some true)
def spec_SameSet.f (k : Nat) (l0 : List (S99)) (l1 : List (S99)) : Option (Bool) := if (l0.length : Int) = (l1.length : Int) then (spec_SameSet.l0 k l0 l1 0) else (some false)
theorem spec_SameSet.calls (k : Nat) (M : Option Addr) (N : Nat) (l0 : List (S99)) (O : Option Addr) (P : Nat) (i : List (S99)) (r : Bool) (w : World) (u : Kd.C k99 w M l0.length l0) (v : l0.length ≤ N) (x : Kd.C k99 w O i.length i) (y : i.length ≤ P) (h : spec_SameSet.f k l0 i = some r) :
  Calls Tryz.prog 102 #[.slice M l0.length N, .slice O i.length P] w fun e w' => e = .returned (.bool r) ∧ Drawn0 w w' := by
 have hu99 := Tryz.underlying99
 have z := Aside0.mk u
 have S := Aside0.mk v
 clear u v
 have A := Aside0.mk x
 have T := Aside0.mk y
 clear x y
 have H : (if (l0.length : Int) = (i.length : Int) then (spec_SameSet.l0 k l0 i 0) else (some false)) = some r := h
 clear h
 replace H := ie_ H; rcases H with ⟨q, H⟩ | ⟨q, H⟩
 ·
  have B : ((l0.length : Int) == (i.length : Int)) = true := beq_iff_eq.mpr q
  have D : ((l0.length : Int) != (i.length : Int)) = false := bne_eq_false_iff_eq.mpr q
  have E : (l0.length == i.length) = true := by first | simpa using q | (simp at q ⊢; omega)
  clear q
  have H' := Aside0.mk H
  clear H
  go_enter Tryz.func102, Tryz.ntmps102
  go_wp2
  repeat (go_quiet (fail); try go_wp2)
  go_loopg [5] k (fun kq U w' => ∃ (a : Int), U = .int .i64 a ∧ Aside0 (spec_SameSet.l0 kq l0 i a = some r) ∧ Aside0 (kq ≤ k) ∧ Drawn0 w w')
  case atStart => exact ⟨(0), rs_, H', ⟨Nat.le_refl _⟩, by repeat (first | exact Drawn0.refl _ | apply Drawn0.step)⟩
  case round =>
   clear H'
   obtain ⟨a, rfl, L, F, ⟨m1, rfl⟩⟩ := hrel
   cases gk with
   | zero => exact absurd L.out (by simp [spec_SameSet.l0])
   | succ V =>
    have H := L.out
    clear L
    simp only [spec_SameSet.l0] at H
    replace H := ie_ H; rcases H with ⟨G, H⟩ | ⟨G, H⟩
    ·
     have I := decide_eq_true G
     clear G
     replace H := id_ H; obtain ⟨Q, H⟩ := H
     replace H := id_ H; obtain ⟨R, H⟩ := H
     replace H := ie_ H; rcases H with ⟨J, H⟩ | ⟨J, H⟩
     ·
      have K : (!((((rd_T99 l0 a).f0).toList) == (((rd_T99 i a).f0).toList)) || (!((((rd_T99 l0 a).f1).toList) == (((rd_T99 i a).f1).toList)))) = true := J
      clear J
      obtain rfl := Option.some.inj H
      obtain ⟨b, c⟩ : 0 ≤ (a : Int) ∧ a < (l0.length : Int) := pq_
      obtain ⟨s, j, l, m⟩ := at_T99 z.out a b c
      cases j
      replace b := eq_true b; replace c := eq_true c
      obtain ⟨d, g⟩ : 0 ≤ (a : Int) ∧ a < (i.length : Int) := pq_
      obtain ⟨t, n, o, p⟩ := at_T99 A.out a d g
      cases n
      replace d := eq_true d; replace g := eq_true g
      go_wp2
      repeat (go_quiet (fail); try go_wp2)
      go_ret
      exact ⟨by first | rfl | (simp; done) | (simp [*]; done), by repeat (first | exact Drawn0.refl _ | apply Drawn0.step)⟩
     have K : (!((((rd_T99 l0 a).f0).toList) == (((rd_T99 i a).f0).toList)) || (!((((rd_T99 l0 a).f1).toList) == (((rd_T99 i a).f1).toList)))) = false := by simpa using J
     clear J
     have H' := Aside0.mk H
     clear H
     obtain ⟨b, c⟩ : 0 ≤ (a : Int) ∧ a < (l0.length : Int) := pq_
     obtain ⟨s, j, l, m⟩ := at_T99 z.out a b c
     cases j
     replace b := eq_true b; replace c := eq_true c
     obtain ⟨d, g⟩ : 0 ≤ (a : Int) ∧ a < (i.length : Int) := pq_
     obtain ⟨t, n, o, p⟩ := at_T99 A.out a d g
     cases n
     replace d := eq_true d; replace g := eq_true g
     go_wp2
     repeat (go_quiet (fail); try go_wp2)
     go_roundg V
     case measure => have := F.out; omega
     case rel => exact ⟨(wrap64 (a + 1)), rs_, H', ⟨by have := F.out; omega⟩, by repeat (first | exact Drawn0.refl _ | apply Drawn0.step)⟩
    have I : decide (a < (l0.length : Int)) = false := decide_eq_false G
    clear G
    obtain rfl := Option.some.inj H
    go_wp2
    repeat (go_quiet (fail); try go_wp2)
    go_ret
    exact ⟨by first | rfl | (simp; done) | (simp [*]; done), by repeat (first | exact Drawn0.refl _ | apply Drawn0.step)⟩
 have B : ((l0.length : Int) == (i.length : Int)) = false := beq_eq_false_iff_ne.mpr q
 have D : ((l0.length : Int) != (i.length : Int)) = true := bne_iff_ne.mpr q
 have E : (l0.length == i.length) = false := by first | simpa using q | (simp at q ⊢; omega)
 obtain rfl := Option.some.inj H
 go_enter Tryz.func102, Tryz.ntmps102
 go_wp2
 repeat (go_quiet (fail); try go_wp2)
 go_ret
 exact ⟨by first | rfl | (simp; done) | (simp [*]; done), by repeat (first | exact Drawn0.refl _ | apply Drawn0.step)⟩
end Go.Proofs.YtanfohlpkppeiaaGreat.Print
end
section
namespace Go.Proofs.YtanfohlpkppeiaaGreat.Print
open Go.RowKit Go.Proofs.YtanfohlpkppeiaaGreatV.PrintWords Go.Proofs.YtanfohlpkppeiaaGreatV.PrintLast Go.Proofs.YtanfohlpkppeiaaGreatV.PrintMore
attribute [local go_sem] max2_int min2_int max_two min_two max_three min_three max_four min_four
set_option linter.unusedVariables false
set_option linter.unusedSimpArgs false
set_option maxHeartbeats 8000000
set_option maxRecDepth 100000
def spec_InChain.l0 : Nat → List (S99) → Int → Int → List (S29) → Option (Int)
 | 0, _, _, _, _ => none
 | k + 1, x1, x5, x195000, x195001 => if x5 < (x195001.length : Int) then (if 0 ≤ x5 then ((spec_SameSet.f k ((rd_T29 x195001 x5).f0) x1).bind fun t196 => (if t196 = true then (some x5) else (spec_InChain.l0 k x1 (wrap64 (x5 + 1)) x195000 x195001))) else (none)) else (some (-1))
def spec_InChain.f (k : Nat) (a0_0 : Int) (l0_1 : List (S29)) (l1 : List (S99)) : Option (Int) := spec_InChain.l0 k l1 0 a0_0 l0_1
theorem spec_InChain.calls (k : Nat) (l : Int) (q : Option Addr) (s : Nat) (a : List (S29)) (Q : Option Addr) (R : Nat) (x : List (S99)) (r : Int) (w : World) (y : Kd.C k29 w q a.length a) (z : a.length ≤ s) (I : Kd.C k99 w Q x.length x) (J : x.length ≤ R) (h : spec_InChain.f k l a x = some r) :
  Calls Tryz.prog 65 #[.agg #[.int .i64 l, .slice q a.length s], .slice Q x.length R] w fun e w' => e = .returned (.int .i64 r) ∧ Below w.heap.size w w' := by
 have hu80 := Tryz.underlying80
 have E := Aside0.mk y
 have S := Aside0.mk z
 clear y z
 have K := Aside0.mk I
 have L := Aside0.mk J
 clear I J
 have v := Aside0.mk (Below.refl w.heap.size w)
 have H : (spec_InChain.l0 k x 0 l a) = some r := h
 clear h
 have H' := Aside0.mk H
 clear H
 go_enter Tryz.func65, Tryz.ntmps65
 go_wp2_with (first | ((with_reducible refine gd_ 2 rfl ?_); refine bv_ 2 #[.int .i64 l, .slice q a.length s] 80 ?_; intro F hg w3 D hb; have d := Aside0.mk (D); have G := gq_ hg v; replace v := st_ v hb; have T := Ge_.mk G.out; clear hb D hg))
 go_loopg [5] k (fun kq v5 w' => ∃ (b : Int), v5 = .int .i64 b ∧ Aside0 (spec_InChain.l0 kq x b l a = some r) ∧ Aside0 (kq ≤ k) ∧ Aside0 (w'.heap[F]? = some (.cells #[.int .i64 l, (.slice q a.length s)] 80 (0, 0))) ∧ Aside0 (Below w.heap.size w w'))
 case atStart => exact ⟨(0), rs_, H', ⟨Nat.le_refl _⟩, ⟨bq_ d.out⟩, ⟨hs_ v.out⟩⟩
 case round =>
  clear H'
  obtain ⟨b, rfl, U, M, d, v⟩ := hrel
  cases gk with
  | zero => exact absurd U.out (by simp [spec_InChain.l0])
  | succ V =>
   have H := U.out
   clear U
   simp only [spec_InChain.l0] at H
   replace H := ie_ H; rcases H with ⟨N, H⟩ | ⟨N, H⟩
   ·
    have O := decide_eq_true N
    clear N
    replace H := id_ H; obtain ⟨ba, H⟩ := H
    replace H := bi_ H; obtain ⟨ca, A6, H⟩ := H
    have AHz_ := Aside0.mk H
    clear H
    obtain ⟨ea, fa, ga, ha⟩ := bc2_ d.out
    obtain ⟨A, B⟩ : 0 ≤ (b : Int) ∧ b < (a.length : Int) := pq_
    obtain ⟨W, t, u, P, c, g, i, j, m, n⟩ := at_T29 E.out b A B
    cases P
    replace c := c4_ v c g i j; clear g i j; obtain ⟨c, g, i, j⟩ := c
    have o := Aside0.mk n
    have p := Aside0.mk m
    clear n m
    replace A := eq_true A; replace B := eq_true B
    have H := AHz_.out
    clear AHz_
    replace H := ib_ H; rcases H with ⟨rfl, H⟩ | ⟨rfl, H⟩
    ·
     obtain rfl := Option.some.inj H
     go_wp2_with (first | ((with_reducible refine gate_callee (f := 102) rfl ?_); refine gl_ (some 20) Tryz.func102 #[.slice t ((rd_T29 a b).f0).length u, .slice Q x.length R] ?_; (with_reducible refine (spec_SameSet.calls V _ _ ((rd_T29 a b).f0) _ _ x true _ ?side1 ?side2 ?side3 ?side4 A6.out).mono ?_); (case side1 => exact cp_ ((Kd.C_below o.out v.out))); (case side2 => exact p.out); (case side3 => exact cp_ ((Kd.C_below K.out v.out))); (case side4 => exact L.out); rintro e w' ⟨rfl, ⟨nd, rfl⟩⟩; refine ⟨_, rfl, ?_⟩))
     go_ret
     exact an_ (hs_ v.out)
    have H' := Aside0.mk H
    clear H
    go_wp2_with (first | ((with_reducible refine gate_callee (f := 102) rfl ?_); refine gl_ (some 20) Tryz.func102 #[.slice t ((rd_T29 a b).f0).length u, .slice Q x.length R] ?_; (with_reducible refine (spec_SameSet.calls V _ _ ((rd_T29 a b).f0) _ _ x false _ ?side1 ?side2 ?side3 ?side4 A6.out).mono ?_); (case side1 => exact cp_ ((Kd.C_below o.out v.out))); (case side2 => exact p.out); (case side3 => exact cp_ ((Kd.C_below K.out v.out))); (case side4 => exact L.out); rintro e w' ⟨rfl, ⟨nd, rfl⟩⟩; refine ⟨_, rfl, ?_⟩))
    go_roundg V
    case measure => have := M.out; omega
    case rel => exact ⟨(wrap64 (b + 1)), rs_, H', ⟨by have := M.out; omega⟩, ⟨bq_ d.out⟩, ⟨hs_ v.out⟩⟩
   have O : decide (b < (a.length : Int)) = false := decide_eq_false N
   clear N
   obtain rfl := Option.some.inj H
   obtain ⟨X, Y, Z, aa⟩ := bc2_ d.out
   go_wp2
   go_ret
   exact an_ (hs_ v.out)
def spec_Touch.f (l0_0 : List (S99)) (a0_1 : Int) (a0_2 : Int) (a0_3 : ByteArray) (l1_0 : List (S99)) (a1_1 : Int) (a1_2 : Int) (a1_3 : ByteArray) : Option (Bool) := if a0_1 ≤ a1_2 then (some (decide (a1_1 ≤ a0_2))) else (some false)
theorem spec_Touch.calls (n : Option Addr) (o : Nat) (a : List (S99)) (c : Int) (l : Int) (p : ByteArray) (q : Option Addr) (s : Nat) (b : List (S99)) (m : Int) (d : Int) (t : ByteArray) (r : Bool) (w : World) (u : Kd.C k99 w n a.length a) (v : a.length ≤ o) (x : Kd.C k99 w q b.length b) (y : b.length ≤ s) (h : spec_Touch.f a c l p b m d t = some r) :
  Calls Tryz.prog 119 #[.agg #[.slice n a.length o, .int .i64 c, .int .i64 l, .string p], .agg #[.slice q b.length s, .int .i64 m, .int .i64 d, .string t]] w fun e w' => e = .returned (.bool r) ∧ Below w.heap.size w w' := by
 have hu29 := Tryz.underlying29
 have G := Aside0.mk u
 have I := Aside0.mk v
 clear u v
 have J := Aside0.mk x
 have K := Aside0.mk y
 clear x y
 have z := Aside0.mk (Below.refl w.heap.size w)
 have H : (if c ≤ d then (some (decide (m ≤ l))) else (some false)) = some r := h
 clear h
 have AHz_ := Aside0.mk H
 clear H
 go_enter Tryz.func119, Tryz.ntmps119
 go_wp2_with (first | ((with_reducible refine gd_ 2 rfl ?_); refine bv_ 2 #[.slice n a.length o, .int .i64 c, .int .i64 l, .string p] 29 ?_; intro L hg w4 g hb; have i := Aside0.mk (g); have A := gq_ hg z; replace z := st_ z hb; have M := Ge_.mk A.out; clear hb g hg) | (((with_reducible refine gd_ 3 rfl ?_); refine bv_ 3 #[.slice q b.length s, .int .i64 m, .int .i64 d, .string t] 29 ?_; intro N hg w5 g hb; have B := Aside0.mk (g); have D := gq_ hg z; replace z := st_ z hb; have O := Ge_.mk D.out; obtain ⟨j, k, i⟩ := nb_ i hg hb; clear hb g hg; have P := j.out; have Q := k.out; obtain ⟨R, S, T, U, V, W, X, Y⟩ := bc4_ i.out; obtain ⟨Z, aa, ba, ca, da, ea, fa, ga⟩ := bc4_ B.out); refine Aside0.out ?_))
 have H := AHz_.out
 clear AHz_
 replace H := ie_ H; rcases H with ⟨E, H⟩ | ⟨E, H⟩
 ·
  have F := decide_eq_true E
  clear E
  obtain rfl := Option.some.inj H
  refine ⟨?_⟩
  go_wp2
  go_ret
  exact an_ (hs_ z.out)
 have F : decide (c ≤ d) = false := decide_eq_false E
 clear E
 obtain rfl := Option.some.inj H
 refine ⟨?_⟩
 go_wp2
 go_ret
 exact an_ (hs_ z.out)
def spec_Least.f (a0 : Int) (a1 : Int) : Option (Int) := if a1 < a0 then (some a1) else (some a0)
theorem spec_Least.calls (a : Int) (b : Int) (r : Int) (w : World) (h : spec_Least.f a b = some r) :
  Calls Tryz.prog 120 #[.int .i64 a, .int .i64 b] w fun e w' => e = .returned (.int .i64 r) ∧ Drawn0 w w' := by
 have H : (if b < a then (some b) else (some a)) = some r := h
 clear h
 replace H := ie_ H; rcases H with ⟨c, H⟩ | ⟨c, H⟩
 ·
  have d := decide_eq_true c
  clear c
  obtain rfl := Option.some.inj H
  go_enter Tryz.func120, Tryz.ntmps120
  go_wp2
  go_ret
  exact ⟨by first | rfl | (simp; done) | (simp [*]; done), by repeat (first | exact Drawn0.refl _ | apply Drawn0.step)⟩
 have d : decide (b < a) = false := decide_eq_false c
 clear c
 obtain rfl := Option.some.inj H
 go_enter Tryz.func120, Tryz.ntmps120
 go_wp2
 go_ret
 exact ⟨by first | rfl | (simp; done) | (simp [*]; done), by repeat (first | exact Drawn0.refl _ | apply Drawn0.step)⟩
def spec_Merge.f (l0_0 : List (S99)) (a0_1 : Int) (a0_2 : Int) (a0_3 : ByteArray) (l1_0 : List (S99)) (a1_1 : Int) (a1_2 : Int) (a1_3 : ByteArray) : Option ((List (S99)) × Int × Int × ByteArray) := (spec_l4Copy.f l1_0 a1_1 a1_2 a1_3).bind fun bt202 => ((spec_Touch.f l0_0 a0_1 a0_2 a0_3 l1_0 a1_1 a1_2 a1_3).bind fun t209 => (if t209 = true then ((spec_Least.f a0_1 a1_1).bind fun t210 => (some (bt202.1, t210, bt202.2.2.1, bt202.2.2.2))) else (some (bt202.1, bt202.2.1, bt202.2.2.1, bt202.2.2.2))))
theorem spec_Merge.calls (x : Option Addr) (y : Nat) (k : List (S99)) (l : Int) (q : Int) (r : ByteArray) (u : Option Addr) (v : Nat) (g : List (S99)) (i : Int) (m : Int) (n : ByteArray) (r1 : List (S99)) (r2 : Int) (r3 : Int) (r4 : ByteArray) (w : World) (Y : Kd.C k99 w x k.length k) (Z : k.length ≤ y) (aa : Kd.C k99 w u g.length g) (ba : g.length ≤ v) (h : spec_Merge.f k l q r g i m n = some (r1, r2, r3, r4)) :
  Calls Tryz.prog 100 #[.agg #[.slice x k.length y, .int .i64 l, .int .i64 q, .string r], .agg #[.slice u g.length v, .int .i64 i, .int .i64 m, .string n]] w fun e w' => ∃ v0_ : Value, e = .returned (.agg #[v0_, .int .i64 r2, .int .i64 r3, .string r4]) ∧ Kd.R k99 99 w' w.heap.size (fun _ => True) v0_ r1 ∧ Below w.heap.size w w' := by
 have hu29 := Tryz.underlying29
 have ca := Aside0.mk Y
 have da := Aside0.mk Z
 clear Y Z
 have J := Aside0.mk aa
 have K := Aside0.mk ba
 clear aa ba
 have s := Aside0.mk (Below.refl w.heap.size w)
 have H : ((spec_l4Copy.f g i m n).bind fun bt202 => ((spec_Touch.f k l q r g i m n).bind fun fa => (if fa = true then ((spec_Least.f l i).bind fun G => (some (bt202.1, G, bt202.2.2.1, bt202.2.2.2))) else (some (bt202.1, bt202.2.1, bt202.2.2.1, bt202.2.2.2))))) = some (r1, r2, r3, r4) := h
 clear h
 replace H := bi_ H; obtain ⟨⟨t, I, z, A⟩, A3, H⟩ := H; (try dsimp only at H)
 replace H := bi_ H; obtain ⟨fa, A4, H⟩ := H
 have AHz_ := Aside0.mk H
 clear H
 go_enter Tryz.func100, Tryz.ntmps100
 go_wp2_with (first | ((with_reducible refine gd_ 2 rfl ?_); refine bv_ 2 #[.slice x k.length y, .int .i64 l, .int .i64 q, .string r] 29 ?_; intro ga hg w7 o hb; have a := Aside0.mk (o); have ha := gq_ hg s; replace s := st_ s hb; have sa := Ge_.mk ha.out; clear hb o hg) | ((with_reducible refine gd_ 3 rfl ?_); refine bv_ 3 #[.slice u g.length v, .int .i64 i, .int .i64 m, .string n] 29 ?_; intro ia hg w8 o hb; have c := Aside0.mk (o); have ja := gq_ hg s; replace s := st_ s hb; have ta := Ge_.mk ja.out; obtain ⟨L, M, a⟩ := nb_ a hg hb; clear hb o hg) | ((with_reducible refine gd_ 4 rfl ?_); refine bv_ 4 #[.slice none 0 0, .int .i64 0, .int .i64 0, .string (⟨#[]⟩ : ByteArray)] 29 ?_; intro E hg w9 o hb; have b := Aside0.mk (o); have ka := gq_ hg s; replace s := st_ s hb; have ua := Ge_.mk ka.out; obtain ⟨N, O, a⟩ := nb_ a hg hb; obtain ⟨P, Q, c⟩ := nb_ c hg hb; clear hb o hg; have va := M.out; have wa := L.out; have xa := P.out; have ya := Q.out; obtain ⟨za, Aa, Ba, Ca, Da, Ea, Fa, Ga⟩ := bc4_ c.out) | ((with_reducible refine gate_callee (f := 63) rfl ?_); refine gl_ (some 7) Tryz.func63 #[.agg #[.slice u g.length v, .int .i64 i, .int .i64 m, .string n]] ?_; (with_reducible refine (spec_l4Copy.calls _ _ g i m n t I z A _ ?side1 ?side2 A3.out).mono ?_); (case side1 => exact cp_ ((Kd.C_below J.out s.out))); (case side2 => exact K.out); rintro e oc ⟨mc, rfl, ma, hb⟩; refine ⟨_, rfl, ?_⟩; have j := rw_ ma s; replace a := bk2_ a hb; replace c := bk2_ c hb; replace b := bk2_ b hb; replace s := st_ s hb; (try clear hb); (try clear hk); (try clear ma)) | (((with_reducible refine gd_ 5 rfl ?_); refine bv_ 5 #[.slice none 0 0, .int .i64 0, .int .i64 0, .string (⟨#[]⟩ : ByteArray)] 29 ?_; intro ea hg pc o hb; replace j := rb_ j hb; have d := Aside0.mk (o); have la := gq_ hg s; replace s := st_ s hb; have Ha := Ge_.mk la.out; obtain ⟨S, T, a⟩ := nb_ a hg hb; obtain ⟨U, V, c⟩ := nb_ c hg hb; obtain ⟨W, X, b⟩ := nb_ b hg hb; clear hb o hg; obtain ⟨B, D, na⟩ := Kd.R_slice j.out; subst na; have Ia := T.out; have Ja := S.out; have Ka := V.out; have La := U.out; have Ma := X.out; have Na := W.out; obtain ⟨Oa, Pa, Qa, Ra, Sa, Ta, Ua, Va⟩ := bc4_ d.out; have Wa := N.out; have Xa := O.out; obtain ⟨Ya, Za, ab, bb, cb, db, eb, fb⟩ := bc4_ a.out; obtain ⟨gb, ib, jb, kb, lb, mb, nb, ob⟩ := bc4_ c.out); refine Aside0.out ?_))
 have H := AHz_.out
 clear AHz_
 replace H := ib_ H; rcases H with ⟨rfl, H⟩ | ⟨rfl, H⟩
 ·
  replace H := bi_ H; obtain ⟨G, A6, H⟩ := H
  simp only [Option.some.injEq, Prod.mk.injEq] at H
  obtain ⟨rfl, rfl, rfl, rfl⟩ := H
  refine ⟨?_⟩
  go_wp2_with (first | ((with_reducible refine gate_callee (f := 119) rfl ?_); refine gl_ (some 10) Tryz.func119 #[.agg #[.slice x k.length y, .int .i64 l, .int .i64 q, .string r], .agg #[.slice u g.length v, .int .i64 i, .int .i64 m, .string n]] ?_; (with_reducible refine (spec_Touch.calls _ _ k l q r _ _ g i m n true _ ?side1 ?side2 ?side3 ?side4 A4.out).mono ?_); (case side1 => exact Kd.C_below ca.out (hs_ s.out)); (case side2 => exact da.out); (case side3 => exact Kd.C_below J.out (hs_ s.out)); (case side4 => exact K.out); rintro e F ⟨rfl, hb⟩; refine ⟨_, rfl, ?_⟩; replace j := Aside0.mk (Kd.R_below (ry_ j.out d.out) hb); replace a := bk2_ a hb; replace c := bk2_ c hb; replace b := bk2_ b hb; replace d := by_ d #[.slice B t.length D, .int .i64 I, .int .i64 z, .string A] hb; replace s := st_ s hb; (try clear hb); (try clear hk); obtain ⟨pb, qb, rb, sb, tb, ub, vb, wb⟩ := bc4_ a.out; obtain ⟨xb, yb, zb, Ab, Bb, Cb, Db, Eb⟩ := bc4_ c.out) | ((with_reducible refine gate_callee (f := 120) rfl ?_); refine gl_ (some 15) Tryz.func120 #[.int .i64 l, .int .i64 i] ?_; (with_reducible refine (spec_Least.calls l i G _ A6.out).mono ?_); rintro e w' ⟨rfl, ⟨nd, rfl⟩⟩; refine ⟨_, rfl, ?_⟩; (try (rw [drewN_self F]; generalize hq_ : World.drewN F _ = F; replace j : Aside0 (Kd.R k99 99 F w.heap.size (fun _ => True) (.slice B t.length D) t) := ⟨by rw [← hq_]; exact (rp_ j.out)⟩; replace a : Aside0 (F.heap[ga]? = some (.cells #[.slice x k.length y, .int .i64 l, .int .i64 q, .string r] 29 (0, 0))) := ⟨by rw [← hq_]; exact (pb_ a.out)⟩; replace c : Aside0 (F.heap[ia]? = some (.cells #[.slice u g.length v, .int .i64 i, .int .i64 m, .string n] 29 (0, 0))) := ⟨by rw [← hq_]; exact (pb_ c.out)⟩; replace b : Aside0 (F.heap[E]? = some (.cells #[.slice none 0 0, .int .i64 0, .int .i64 0, .string (⟨#[]⟩ : ByteArray)] 29 (0, 0))) := ⟨by rw [← hq_]; exact (pb_ b.out)⟩; replace d : Aside0 (F.heap[ea]? = some (.cells #[.slice B t.length D, .int .i64 I, .int .i64 z, .string A] 29 (0, 0))) := ⟨by rw [← hq_]; exact (pb_ d.out)⟩; replace s : Aside0 (Below w.heap.size w F) := ⟨by rw [← hq_]; exact (hs_ s.out)⟩; clear hq_)); obtain ⟨Fb, Gb, Hb, Ib, Jb, Kb, Lb, Mb⟩ := bc4_ d.out; obtain ⟨Nb, Ob, Pb, Qb, Rb, Sb, Tb, Ub⟩ := bc4_ b.out))
  refine bodyPost_ret (results_cell_row rfl _ _ E 29 #[.slice B t.length D, .int .i64 G, .int .i64 z, .string A] (0, 0) _ rfl (bp_ b.out) Tryz.underlying29 rfl (by kernel_rfl)) rfl ?_
  exact ⟨_, rr_, Kd.R_mono (rf_ E (Kd.R_far (p := ⟨ea, 1, none⟩) (Kd.R_types (Kd.R_types j.out d.out (by decide)) b.out (by decide)) (fun _ hk => hk.1.2) (.int .i64 G)) (fun _ hk => hk.2)) (fun _ hk => trivial), hs_ s.out⟩
 simp only [Option.some.injEq, Prod.mk.injEq] at H
 obtain ⟨rfl, rfl, rfl, rfl⟩ := H
 refine ⟨?_⟩
 go_wp2_with (first | ((with_reducible refine gate_callee (f := 119) rfl ?_); refine gl_ (some 10) Tryz.func119 #[.agg #[.slice x k.length y, .int .i64 l, .int .i64 q, .string r], .agg #[.slice u g.length v, .int .i64 i, .int .i64 m, .string n]] ?_; (with_reducible refine (spec_Touch.calls _ _ k l q r _ _ g i m n false _ ?side1 ?side2 ?side3 ?side4 A4.out).mono ?_); (case side1 => exact Kd.C_below ca.out (hs_ s.out)); (case side2 => exact da.out); (case side3 => exact Kd.C_below J.out (hs_ s.out)); (case side4 => exact K.out); rintro e rc ⟨rfl, hb⟩; refine ⟨_, rfl, ?_⟩; replace j := Aside0.mk (Kd.R_below (ry_ j.out d.out) hb); replace a := bk2_ a hb; replace c := bk2_ c hb; replace b := bk2_ b hb; replace d := by_ d #[.slice B t.length D, .int .i64 I, .int .i64 z, .string A] hb; replace s := st_ s hb; (try clear hb); (try clear hk); obtain ⟨Vb, Wb, Xb, Yb, Zb, ac, bc, cc⟩ := bc4_ d.out; obtain ⟨dc, ec, fc, gc, hc, ic, jc, kc⟩ := bc4_ b.out))
 refine bodyPost_ret (results_cell_row rfl _ _ E 29 #[.slice B t.length D, .int .i64 I, .int .i64 z, .string A] (0, 0) _ rfl (bp_ b.out) Tryz.underlying29 rfl (by kernel_rfl)) rfl ?_
 exact ⟨_, rr_, Kd.R_mono (ry_ j.out b.out) (fun _ hk => trivial), hs_ s.out⟩
def spec_PutChain.f (k : Nat) (a0_0 : Int) (l0_1 : List (S29)) (l1_0 : List (S99)) (a1_1 : Int) (a1_2 : Int) (a1_3 : ByteArray) : Option (Int × (List (S29)) × Bool) := (spec_l6Copy.f k a0_0 l0_1).bind fun bt214 => ((spec_InChain.f k a0_0 l0_1 l1_0).bind fun t219 => (if t219 < 0 then ((spec_l4Copy.f l1_0 a1_1 a1_2 a1_3).bind fun bt220 => (if bt214.2.length < 2513169434916 then (some (bt214.1, (bt214.2 ++ [(⟨bt220.1, bt220.2.1, bt220.2.2.1, bt220.2.2.2⟩ : S29)]), true)) else (none))) else (if 0 ≤ t219 then (if t219 < (l0_1.length : Int) then ((spec_Merge.f ((rd_T29 l0_1 t219).f0) ((rd_T29 l0_1 t219).f1) ((rd_T29 l0_1 t219).f2) ((rd_T29 l0_1 t219).f3) l1_0 a1_1 a1_2 a1_3).bind fun bt231 => (if t219 < (bt214.2.length : Int) then (some (bt214.1, (bt214.2.set (t219 : Int).toNat (⟨bt231.1, bt231.2.1, bt231.2.2.1, bt231.2.2.2⟩ : S29)), false)) else (none))) else (none)) else (none))))
def spec_PutChain.T7 : Bool × List (List Nat × List Nat) := (true, [([], []), ([0], [0]), ([], []), ([1, 2], [1, 2]), ([3], [3]), ([], []), ([4, 5], [4, 5]), ([], []), ([7, 6, 6, 0, 1, 2, 3, 4, 5, 6, 7], [6, 7])])
def spec_PutChain.B7 : List Nat := [0, 1, 0, 7, 15, 0, 63, 0, 255]
theorem spec_PutChain.tab7 : rtab .any (opsOf Tryz.f62 7) = spec_PutChain.T7 := by kernel_rfl
theorem spec_PutChain.bits7 : waitsOk spec_PutChain.T7.2 spec_PutChain.B7 = true := by kernel_rfl
theorem spec_PutChain.calls (k : Nat) (W : Int) (Ka : Option Addr) (ea : Nat) (r : List (S29)) (ca : Option Addr) (da : Nat) (J : List (S99)) (X : Int) (Y : Int) (Z : ByteArray) (r1 : Int) (r2 : List (S29)) (r3 : Bool) (w : World) (yb : Kd.C k29 w Ka r.length r) (zb : r.length ≤ ea) (Ab : Kd.C k99 w ca J.length J) (Bb : J.length ≤ da) (h : spec_PutChain.f k W r J X Y Z = some (r1, r2, r3)) :
  Calls Tryz.prog 62 #[.agg #[.int .i64 W, .slice Ka r.length ea], .agg #[.slice ca J.length da, .int .i64 X, .int .i64 Y, .string Z]] w fun e w' => ∃ v1_ : Value, e = .returned (.tuple #[.agg #[.int .i64 r1, v1_], .bool r3]) ∧ Kd.S k29 29 w' w.heap.size (fun _ => True) v1_ r2 ∧ Below w.heap.size w w' := by
 have hu80 := Tryz.underlying80
 have hu29 := Tryz.underlying29
 have Qa := Aside0.mk yb
 have fb := Aside0.mk zb
 clear yb zb
 have Ra := Aside0.mk Ab
 have Sa := Aside0.mk Bb
 clear Ab Bb
 have x := Aside0.mk (Below.refl w.heap.size w)
 have H : ((spec_l6Copy.f k W r).bind fun bt214 => ((spec_InChain.f k W r J).bind fun d => (if d < 0 then ((spec_l4Copy.f J X Y Z).bind fun bt220 => (if bt214.2.length < 2513169434916 then (some (bt214.1, (bt214.2 ++ [(⟨bt220.1, bt220.2.1, bt220.2.2.1, bt220.2.2.2⟩ : S29)]), true)) else (none))) else (if 0 ≤ d then (if d < (r.length : Int) then ((spec_Merge.f ((rd_T29 r d).f0) ((rd_T29 r d).f1) ((rd_T29 r d).f2) ((rd_T29 r d).f3) J X Y Z).bind fun bt231 => (if d < (bt214.2.length : Int) then (some (bt214.1, (bt214.2.set (d : Int).toNat (⟨bt231.1, bt231.2.1, bt231.2.2.1, bt231.2.2.2⟩ : S29)), false)) else (none))) else (none)) else (none))))) = some (r1, r2, r3) := h
 clear h
 replace H := bi_ H; obtain ⟨⟨ma, y⟩, A3, H⟩ := H; (try dsimp only at H)
 replace H := bi_ H; obtain ⟨d, A4, H⟩ := H
 replace H := ie_ H; rcases H with ⟨c5, H⟩ | ⟨c5, H⟩
 ·
  have pc := decide_eq_true c5
  clear c5
  replace H := bi_ H; obtain ⟨⟨na, Na, Oa, Pa⟩, A6, H⟩ := H; (try dsimp only at H)
  replace H := im_ H; obtain ⟨qc, H⟩ := H
  obtain ⟨Cb, hy_⟩ : ∃ y_ : List (S29), y_ = (y ++ [(⟨na, Na, Oa, Pa⟩ : S29)]) := ⟨_, rfl⟩
  replace H : (some (ma, Cb, true)) = some (r1, r2, r3) := hm_
  have bc := Aside0.mk hy_; clear hy_
  simp only [Option.some.injEq, Prod.mk.injEq] at H
  obtain ⟨rfl, rfl, rfl⟩ := H
  go_enter Tryz.func62, Tryz.ntmps62
  go_wp2_with (first | ((with_reducible refine gd_ 2 rfl ?_); refine bv_ 2 #[.int .i64 W, .slice Ka r.length ea] 80 ?_; intro aa hg w8 z hb; have c := Aside0.mk (z); have mb := gq_ hg x; replace x := st_ x hb; have cc := Ge_.mk mb.out; clear hb z hg) | ((with_reducible refine gd_ 3 rfl ?_); refine bv_ 3 #[.slice ca J.length da, .int .i64 X, .int .i64 Y, .string Z] 29 ?_; intro s hg w9 z hb; have a := Aside0.mk (z); have nb := gq_ hg x; replace x := st_ x hb; have dc := Ge_.mk nb.out; obtain ⟨ya, za, c⟩ := nb_ c hg hb; clear hb z hg) | ((with_reducible refine gd_ 4 rfl ?_); refine bv_ 4 #[.int .i64 0, .slice none 0 0] 80 ?_; intro ia hg Og z hb; have m := Aside0.mk (z); have ob := gq_ hg x; replace x := st_ x hb; have ec := Ge_.mk ob.out; obtain ⟨Aa, Ba, c⟩ := nb_ c hg hb; obtain ⟨Ca, Da, a⟩ := nb_ a hg hb; clear hb z hg; have Fd := ya.out; have Gd := za.out; have Hd := Aa.out; have Id := Ba.out; obtain ⟨Jd, Ld, Md, Nd⟩ := bc2_ c.out) | ((with_reducible refine gate_callee (f := 92) rfl ?_); refine gl_ (some 11) Tryz.func92 #[.agg #[.int .i64 W, .slice Ka r.length ea]] ?_; (with_reducible refine (spec_l6Copy.calls k W _ _ r ma y _ ?side1 ?side2 A3.out).mono ?_); (case side1 => exact cp_ ((Kd.C_below Qa.out x.out))); (case side2 => exact fb.out); rintro e Pg ⟨rc, rfl, oa, hb⟩; refine ⟨_, rfl, ?_⟩; have l := Aside0.mk (Kd.S_lower (Kd.S_newB oa (pb_ a.out)) (below_size (hs_ x.out))); replace c := bk2_ c hb; replace a := bk2_ a hb; replace m := bk2_ m hb; replace x := st_ x hb; (try clear hb); (try clear hk); (try clear oa)) | ((with_reducible refine gd_ 6 rfl ?_); refine bv_ 6 #[.int .i64 0, .slice none 0 0] 80 ?_; intro pa hg Qg z hb; replace l := sb_ l hb; have q := Aside0.mk (z); have pb := gq_ hg x; replace x := st_ x hb; have fc := Ge_.mk pb.out; obtain ⟨Ea, Fa, c⟩ := nb_ c hg hb; obtain ⟨Ga, Ha, a⟩ := nb_ a hg hb; obtain ⟨Ia, Ja, m⟩ := nb_ m hg hb; clear hb z hg; have Od := Fa.out; have Pd := Ea.out; have Qd := Ha.out; have Rd := Ga.out; have Sd := Ja.out; have Td := Ia.out; obtain ⟨Ud, Vd, Wd, Xd⟩ := bc2_ q.out; obtain ⟨cb, db, sc⟩ := Kd.S_slice l.out; subst sc; obtain ⟨Yd, Zd, ae, be⟩ := bc2_ c.out; have ce := Ca.out; have de := Da.out; obtain ⟨ee, fe, ge, he, ie, je, ke, le⟩ := bc4_ a.out) | ((with_reducible refine gate_callee (f := 65) rfl ?_); refine gl_ (some 15) Tryz.func65 #[.agg #[.int .i64 W, .slice Ka r.length ea], .slice ca J.length da] ?_; (with_reducible refine (spec_InChain.calls k W _ _ r _ _ J d _ ?side1 ?side2 ?side3 ?side4 A4.out).mono ?_); (case side1 => exact Kd.C_below Qa.out (hs_ x.out)); (case side2 => exact fb.out); (case side3 => exact Kd.C_below Ra.out (hs_ x.out)); (case side4 => exact Sa.out); rintro e Rg ⟨rfl, hb⟩; refine ⟨_, rfl, ?_⟩; replace l := Aside0.mk (Kd.S_below (sy_ l.out q.out) hb); replace c := bk2_ c hb; replace a := bk2_ a hb; replace m := bk2_ m hb; replace q := by_ q #[.int .i64 ma, .slice cb y.length db] hb; replace x := st_ x hb; (try clear hb); (try clear hk); obtain ⟨me, ne, oe, pe, qe, re, se, te⟩ := bc4_ a.out) | ((with_reducible refine gate_callee (f := 63) rfl ?_); refine gl_ (some 19) Tryz.func63 #[.agg #[.slice ca J.length da, .int .i64 X, .int .i64 Y, .string Z]] ?_; (with_reducible refine (spec_l4Copy.calls _ _ J X Y Z na Na Oa Pa _ ?side1 ?side2 A6.out).mono ?_); (case side1 => exact cp_ ((Kd.C_below Ra.out x.out))); (case side2 => exact Sa.out); rintro e Sg ⟨Eg, rfl, oa, hb⟩; refine ⟨_, rfl, ?_⟩; replace l := Aside0.mk (Kd.S_elder' (sp_ l.out) (Kd.R_base oa) hb); have qa := rw_ oa x; replace c := bk2_ c hb; replace a := bk2_ a hb; replace m := bk2_ m hb; replace q := bk2_ q hb; replace x := st_ x hb; (try clear hb); (try clear hk); (try clear oa)) | ((with_reducible refine gd_ 8 rfl ?_); refine bv_ 8 #[.slice none 0 0, .int .i64 0, .int .i64 0, .string (⟨#[]⟩ : ByteArray)] 29 ?_; intro fa hg ue z hb; replace l := se_ l hg hb; replace qa := rb_ qa hb; have ja := Aside0.mk (z); have gc := gq_ hg x; replace x := st_ x hb; have ve := Ge_.mk gc.out; obtain ⟨qb, rb, c⟩ := nb_ c hg hb; obtain ⟨sb, tb, a⟩ := nb_ a hg hb; obtain ⟨ub, vb, m⟩ := nb_ m hg hb; obtain ⟨wb, xb, q⟩ := nb_ q hg hb; clear hb z hg; obtain ⟨Ta, Ua, tc⟩ := Kd.R_slice qa.out; subst tc; have we := rb.out; have xe := qb.out; have ye := tb.out; have ze := sb.out; have Ae := vb.out; have Be := ub.out; have Ce := xb.out; have De := wb.out; obtain ⟨Ee, Fe, Ge, He, Ie, Je, Ke, Le⟩ := bc4_ ja.out) | ((with_reducible refine gate_store (t := 29) (p := 8) rfl ?_); refine store_event (t := 29) (p := 8) (v := ?vo_w34) (w1 := ((((ue.setCell ⟨fa, 0, none⟩ (.slice Ta na.length Ua)).setCell ⟨fa, 1, none⟩ (.int .i64 Na)).setCell ⟨fa, 2, none⟩ (.int .i64 Oa)).setCell ⟨fa, 3, none⟩ (.string Pa))) ?hg ?ho ?hn ?hr ?_; (case ho => rfl); (case hg => rfl); (case hn => rfl); (case hr => first | (go_simp; done) | (go_simp; rfl)); intro ib hw; replace l : Aside0 (Kd.S k29 29 ib w.heap.size (fun k_ => some k_ ≠ (.slice Ta na.length Ua : Value).ownBlock ∧ k_ ≠ s ∧ k_ ≠ fa) (.slice cb y.length db) y) := ⟨(by rw [hw]; exact (Kd.S_mono (sf_ fa l.out (fun _ hk => hk.2)) (fun _ hk => ⟨hk.1.2, ⟨hk.1.1.2, hk.2⟩⟩)))⟩; replace qa : Aside0 (Kd.R k99 99 ib w.heap.size (fun _ => True) (.slice Ta na.length Ua) na) := ⟨(by rw [hw]; exact (Kd.R_mono (ry_ qa.out ja.out) (fun _ hk => trivial)))⟩; replace c : Aside0 (ib.heap[aa]? = some (.cells #[.int .i64 W, .slice Ka r.length ea] 80 (0, 0))) := ⟨(by rw [hw]; exact (bq_ c.out))⟩; replace a : Aside0 (ib.heap[s]? = some (.cells #[.slice ca J.length da, .int .i64 X, .int .i64 Y, .string Z] 29 (0, 0))) := ⟨(by rw [hw]; exact (bq_ a.out))⟩; replace m : Aside0 (ib.heap[ia]? = some (.cells #[.int .i64 0, .slice none 0 0] 80 (0, 0))) := ⟨(by rw [hw]; exact (bq_ m.out))⟩; replace q : Aside0 (ib.heap[pa]? = some (.cells #[.int .i64 ma, .slice cb y.length db] 80 (0, 0))) := ⟨(by rw [hw]; exact (bq_ q.out))⟩; replace ja : Aside0 (ib.heap[fa]? = some (.cells #[.slice Ta na.length Ua, .int .i64 Na, .int .i64 Oa, .string Pa] 29 (0, 0))) := ⟨(by rw [hw]; exact (bp_ ja.out))⟩; replace x : Aside0 (Below w.heap.size w ib) := ⟨(by rw [hw]; exact (hs_ x.out))⟩; clear hw; obtain ⟨Me, Ne, Oe, Pe⟩ := bc2_ q.out; obtain ⟨Qe, Re, Se, Te, Ue, Ve, We, Xe⟩ := bc4_ ja.out) | ((with_reducible refine gate_builtin (b := .append) (xs := #[.tmp 21, .tmp 23]) rfl ?_); at_builtin; refine Kd.S_append k29 (w0 := w) w.heap.size rfl (.tmp 21) (.tmp 23) 40 29 (.agg #[(.slice none 0 0), (.int .i64 0), (.int .i64 0), (.string ⟨#[]⟩)]) 56 rfl Tryz.underlying40 info29 rfl (by decide) (by omega) (.slice cb y.length db) y (⟨na, Na, Oa, Pa⟩ : S29) [.slice Ta na.length Ua, .int .i64 Na, .int .i64 Oa, .string Pa] (fun k_ => k_ ≠ s ∧ k_ ≠ fa) (fun k_ => some k_ = (.slice Ta na.length Ua : Value).ownBlock) rfl rfl ?aP (fun k_ hk_ => ((Kd.R_mono (ok' := fun k_ => ((fun k_ => k_ ≠ s ∧ k_ ≠ fa)) k_ ∧ some k_ ≠ (.slice cb y.length db : Value).ownBlock) (Kd.R_types (Kd.R_types (Kd.R_apart' (qa.out) (Kd.S_typed l.out) (by decide)) a.out (by decide)) ja.out (by decide)) (fun k_ hk => ⟨⟨hk.1.2, hk.2⟩, hk.1.1.2⟩))).1 k_ hk_.symm) ?aF ?aO ?aB ?aS ?aL ?_; (case aP => exact k29_mkM _ _ _ (⟨na, Na, Oa, Pa⟩ : S29) (Kd.R_mono (Kd.R_tight rfl (Kd.R_mono (ok' := fun k_ => ((fun k_ => k_ ≠ s ∧ k_ ≠ fa)) k_ ∧ some k_ ≠ (.slice cb y.length db : Value).ownBlock) (Kd.R_types (Kd.R_types (Kd.R_apart' (qa.out) (Kd.S_typed l.out) (by decide)) a.out (by decide)) ja.out (by decide)) (fun k_ hk => ⟨⟨hk.1.2, hk.2⟩, hk.1.1.2⟩))) (fun _ h_ => h_))); (case aB => exact (hs_ x.out)); (case aF => exact (fun k_ hk => ⟨Kd.freshB (g := s) (o := .cells #[.slice ca J.length da, .int .i64 X, .int .i64 Y, .string Z] 29 (0, 0)) (pb_ a.out) k_ hk, Kd.freshB (g := fa) (o := .cells #[.slice Ta na.length Ua, .int .i64 Na, .int .i64 Oa, .string Pa] 29 (0, 0)) (pb_ ja.out) k_ hk⟩)); (case aO => exact (Kd.S_mono (sp_ l.out) (fun k_ hk => ⟨⟨hk.2.1, hk.2.2⟩, fun e_ => hk.1 e_⟩))); (case aS => exact (below_size (hs_ x.out))); (case aL => have := qc.out; omega); intro Fg Tg ho hb hg hat; rw [← bc.out] at ho; replace c := Aside0.mk (blk_grown (bq_ c.out) hg (Kd.S_ne l.out c.out (by decide))); replace a := Aside0.mk (blk_grown (bq_ a.out) hg (Kd.S_away l.out (fun _ hk => hk.2.1))); replace m := Aside0.mk (blk_grown (bq_ m.out) hg (Kd.S_ne l.out m.out (by decide))); replace q := Aside0.mk (blk_grown (bq_ q.out) hg (Kd.S_ne l.out q.out (by decide))); replace ja := Aside0.mk (blk_grown (bq_ ja.out) hg (Kd.S_away l.out (fun _ hk => hk.2.2))); replace x := Aside0.mk (hb); have Db := Aside0.mk (ho); clear l qa; clear ho hb hg hat; obtain ⟨Nb, Ob, uc⟩ := Kd.S_slice Db.out; subst uc; obtain ⟨Ye, Ze, af, bf⟩ := bc2_ q.out; obtain ⟨cf, df, ef, ff⟩ := bc2_ m.out))
  refine bodyPost_ret (results_ct rfl _ _ ia 80 #[.int .i64 ma, .slice Nb Cb.length Ob] (0, 0) _ rfl (bp_ m.out) Tryz.underlying80 rfl (by kernel_rfl)) rfl ?_
  exact ⟨_, rr_, Kd.S_mono (sf_ ia (Kd.S_far (p := ⟨pa, 1, none⟩) (Kd.S_types (Kd.S_types Db.out q.out (by decide)) m.out (by decide)) (fun _ hk => hk.1.2) (.slice Nb Cb.length Ob)) (fun _ hk => hk.2)) (fun _ hk => trivial), hs_ x.out⟩
 have pc : decide (d < 0) = false := decide_eq_false c5
 clear c5
 replace H := id_ H; obtain ⟨gf, H⟩ := H
 replace H := id_ H; obtain ⟨hf, H⟩ := H
 replace H := bi_ H; obtain ⟨⟨ga, ua, va, wa⟩, vc, H⟩ := H; (try dsimp only at H)
 replace H := id_ H; obtain ⟨jf, H⟩ := H
 obtain ⟨Pb, hy_⟩ : ∃ y_ : List (S29), y_ = (y.set (d : Int).toNat (⟨ga, ua, va, wa⟩ : S29)) := ⟨_, rfl⟩
 replace H : (some (ma, Pb, false)) = some (r1, r2, r3) := hm_
 have hc := Aside0.mk hy_; clear hy_
 simp only [Option.some.injEq, Prod.mk.injEq] at H
 obtain ⟨rfl, rfl, rfl⟩ := H
 go_enter Tryz.func62, Tryz.ntmps62
 try go_wp2_with (first | ((with_reducible refine gd_ 2 rfl ?_); refine bv_ 2 #[.int .i64 W, .slice Ka r.length ea] 80 ?_; intro aa hg Ug z hb; have c := Aside0.mk (z); have mb := gq_ hg x; replace x := st_ x hb; have cc := Ge_.mk mb.out; clear hb z hg) | ((with_reducible refine gd_ 3 rfl ?_); refine bv_ 3 #[.slice ca J.length da, .int .i64 X, .int .i64 Y, .string Z] 29 ?_; intro s hg Vg z hb; have a := Aside0.mk (z); have nb := gq_ hg x; replace x := st_ x hb; have dc := Ge_.mk nb.out; obtain ⟨ya, za, c⟩ := nb_ c hg hb; clear hb z hg) | ((with_reducible refine gd_ 4 rfl ?_); refine bv_ 4 #[.int .i64 0, .slice none 0 0] 80 ?_; intro ia hg Wg z hb; have m := Aside0.mk (z); have ob := gq_ hg x; replace x := st_ x hb; have ec := Ge_.mk ob.out; obtain ⟨Aa, Ba, c⟩ := nb_ c hg hb; obtain ⟨Ca, Da, a⟩ := nb_ a hg hb; clear hb z hg; have kf := ya.out; have lf := za.out; have mf := Aa.out; have nf := Ba.out; obtain ⟨pf, qf, rf, sf⟩ := bc2_ c.out) | ((with_reducible refine gate_callee (f := 92) rfl ?_); refine gl_ (some 11) Tryz.func92 #[.agg #[.int .i64 W, .slice Ka r.length ea]] ?_; (with_reducible refine (spec_l6Copy.calls k W _ _ r ma y _ ?side1 ?side2 A3.out).mono ?_); (case side1 => exact cp_ ((Kd.C_below Qa.out x.out))); (case side2 => exact fb.out); rintro e Xg ⟨rc, rfl, oa, hb⟩; refine ⟨_, rfl, ?_⟩; have l := Aside0.mk (Kd.S_lower (Kd.S_newB oa (pb_ a.out)) (below_size (hs_ x.out))); replace c := bk2_ c hb; replace a := bk2_ a hb; replace m := bk2_ m hb; replace x := st_ x hb; (try clear hb); (try clear hk); (try clear oa)) | ((with_reducible refine gd_ 6 rfl ?_); refine bv_ 6 #[.int .i64 0, .slice none 0 0] 80 ?_; intro pa hg Yg z hb; replace l := sb_ l hb; have q := Aside0.mk (z); have pb := gq_ hg x; replace x := st_ x hb; have fc := Ge_.mk pb.out; obtain ⟨Ea, Fa, c⟩ := nb_ c hg hb; obtain ⟨Ga, Ha, a⟩ := nb_ a hg hb; obtain ⟨Ia, Ja, m⟩ := nb_ m hg hb; clear hb z hg; have tf := Fa.out; have uf := Ea.out; have vf := Ha.out; have wf := Ga.out; have xf := Ja.out; have yf := Ia.out; obtain ⟨zf, Af, Bf, Cf⟩ := bc2_ q.out; obtain ⟨Va, xa, wc⟩ := Kd.S_slice l.out; subst wc; obtain ⟨Df, Ef, Ff, Gf⟩ := bc2_ c.out; have Hf := Ca.out; have If := Da.out; obtain ⟨Jf, Kf, Lf, Mf, Nf, Of, Pf, Qf⟩ := bc4_ a.out) | ((with_reducible refine gate_callee (f := 65) rfl ?_); refine gl_ (some 15) Tryz.func65 #[.agg #[.int .i64 W, .slice Ka r.length ea], .slice ca J.length da] ?_; (with_reducible refine (spec_InChain.calls k W _ _ r _ _ J d _ ?side1 ?side2 ?side3 ?side4 A4.out).mono ?_); (case side1 => exact Kd.C_below Qa.out (hs_ x.out)); (case side2 => exact fb.out); (case side3 => exact Kd.C_below Ra.out (hs_ x.out)); (case side4 => exact Sa.out); rintro e Rf ⟨rfl, hb⟩; refine ⟨_, rfl, ?_⟩; replace l := Aside0.mk (Kd.S_below (sy_ l.out q.out) hb); replace c := bk2_ c hb; replace a := bk2_ a hb; replace m := bk2_ m hb; replace q := by_ q #[.int .i64 ma, .slice Va y.length xa] hb; replace x := st_ x hb; (try clear hb); (try clear hk)))
 replace l := Aside0.mk (Kd.S_drew l.out)
 replace c := Aside0.mk (blk_drew c.out)
 replace a := Aside0.mk (blk_drew a.out)
 replace m := Aside0.mk (blk_drew m.out)
 replace q := Aside0.mk (blk_drew q.out)
 replace x := Aside0.mk (bd_ x.out)
 obtain ⟨Eb, Fb⟩ : 0 ≤ (d : Int) ∧ d < (r.length : Int) := pq_
 obtain ⟨u, La, Ma, xc, ka, ra, sa, ta, jb, kb⟩ := at_T29 Qa.out d Eb Fb
 have B := ta
 have D := sa
 have E := ra
 have F := ka
 cases xc
 replace ka := c4_ x ka ra sa ta; clear ra sa ta; obtain ⟨ka, ra, sa, ta⟩ := ka
 have Wa := Aside0.mk kb
 have lb := Aside0.mk jb
 clear kb jb
 replace Eb := eq_true Eb; replace Fb := eq_true Fb
 refine start_ (n := 9) (S := fun w' => w'.cell? ⟨aa, 0, none⟩ = some (.int .i64 W) ∧ w'.cell? ⟨aa, 1, none⟩ = some (.slice (some u) r.length ea) ∧ w'.cell? ⟨s, 0, none⟩ = some (.slice ca J.length da) ∧ w'.cell? ⟨s, 1, none⟩ = some (.int .i64 X) ∧ w'.cell? ⟨s, 2, none⟩ = some (.int .i64 Y) ∧ w'.cell? ⟨s, 3, none⟩ = some (.string Z) ∧ w'.cell? (u.add ((d).toNat * 4)) = some (.slice La ((rd_T29 r d).f0).length Ma) ∧ w'.cell? ⟨(u.add ((d).toNat * 4)).block, (u.add ((d).toNat * 4)).off + 1, none⟩ = some (.int .i64 ((rd_T29 r d).f1)) ∧ w'.cell? ⟨(u.add ((d).toNat * 4)).block, (u.add ((d).toNat * 4)).off + 2, none⟩ = some (.int .i64 ((rd_T29 r d).f2)) ∧ w'.cell? ⟨(u.add ((d).toNat * 4)).block, (u.add ((d).toNat * 4)).off + 3, none⟩ = some (.string ((rd_T29 r d).f3))) (ds := []) (b_ 0 9) (by kernel_rfl) rfl rfl ⟨bx_ c.out 0, bx_ c.out 1, bx_ a.out 0, bx_ a.out 1, bx_ a.out 2, bx_ a.out 3, ((x.out.cell (World.block_lt_of_cell? w _ F)).trans F), ((x.out.cell (World.block_lt_of_cell? w _ E)).trans E), ((x.out.cell (World.block_lt_of_cell? w _ D)).trans D), ((x.out.cell (World.block_lt_of_cell? w _ B)).trans B)⟩ (fun G => ?_); refine with_tabW spec_PutChain.tab7 spec_PutChain.bits7 (fun bb yc => ?_)
 generalize Rf.drew = Zg at l c a m q x Wa ka ra sa ta G ⊢
 refine p_ bb ?_
 refine qw_ 2 (m_ 9 5) bb ?_
 refine qt_ 1 (b_ 3 6) bb yc G ?_
 refine p_ bb ?_
 iterate 2 refine t0_ bb yc G ?_
 refine join_ (σ := Value × Nat) 1 (b_ 8 1) (fun s_ => [(33, .agg #[s_.1, .int .i64 ua, .int .i64 va, .string wa]), (9, .pointer (some ⟨s_.2, 0, none⟩))]) (fun s_ w' => (w'.cell? ⟨aa, 0, none⟩ = some (.int .i64 W) ∧ w'.cell? ⟨aa, 1, none⟩ = some (.slice (some u) r.length ea) ∧ w'.cell? ⟨s, 0, none⟩ = some (.slice ca J.length da) ∧ w'.cell? ⟨s, 1, none⟩ = some (.int .i64 X) ∧ w'.cell? ⟨s, 2, none⟩ = some (.int .i64 Y) ∧ w'.cell? ⟨s, 3, none⟩ = some (.string Z) ∧ w'.cell? (u.add ((d).toNat * 4)) = some (.slice La ((rd_T29 r d).f0).length Ma) ∧ w'.cell? ⟨(u.add ((d).toNat * 4)).block, (u.add ((d).toNat * 4)).off + 1, none⟩ = some (.int .i64 ((rd_T29 r d).f1)) ∧ w'.cell? ⟨(u.add ((d).toNat * 4)).block, (u.add ((d).toNat * 4)).off + 2, none⟩ = some (.int .i64 ((rd_T29 r d).f2)) ∧ w'.cell? ⟨(u.add ((d).toNat * 4)).block, (u.add ((d).toNat * 4)).off + 3, none⟩ = some (.string ((rd_T29 r d).f3))) ∧ (Kd.S k29 29 w' w.heap.size (fun k_ => some k_ ≠ (s_.1 : Value).ownBlock ∧ k_ ≠ s ∧ k_ ≠ s_.2) (.slice Va y.length xa) y) ∧ (Kd.R k99 99 w' w.heap.size (fun _ => True) s_.1 ga) ∧ (w'.heap[aa]? = some (.cells #[.int .i64 W, .slice (some u) r.length ea] 80 (0, 0))) ∧ (w'.heap[s]? = some (.cells #[.slice ca J.length da, .int .i64 X, .int .i64 Y, .string Z] 29 (0, 0))) ∧ (w'.heap[ia]? = some (.cells #[.int .i64 0, .slice none 0 0] 80 (0, 0))) ∧ (w'.heap[pa]? = some (.cells #[.int .i64 ma, .slice Va y.length xa] 80 (0, 0))) ∧ (w'.heap[s_.2]? = some (.cells #[.slice none 0 0, .int .i64 0, .int .i64 0, .string (⟨#[]⟩ : ByteArray)] 29 (0, 0))) ∧ (w.heap.size ≤ s_.2) ∧ (w.heap.size ≤ s_.2) ∧ (aa ≠ s_.2) ∧ (s_.2 ≠ aa) ∧ (s ≠ s_.2) ∧ (s_.2 ≠ s) ∧ (ia ≠ s_.2) ∧ (s_.2 ≠ ia) ∧ (pa ≠ s_.2) ∧ (s_.2 ≠ pa) ∧ (Below w.heap.size w w')) ?_ ?_
 rotate_left
 ·
  intro Gb
  refine two_ (i := 6) (j := 7) (Ni := some 33) (Nj := some 9) (b_ 7 2) (m_ 9 191) rfl rfl rfl rfl (two_of bb.out (by kernel_rfl)) (by decide) (by decide) (fun K hK => ?_) (fun K hK => ?_)
  ·
   skip
   refine gs_ Tryz.func100 #[.agg #[.slice La ((rd_T29 r d).f0).length Ma, .int .i64 ((rd_T29 r d).f1), .int .i64 ((rd_T29 r d).f2), .string ((rd_T29 r d).f3)], .agg #[.slice ca J.length da, .int .i64 X, .int .i64 Y, .string Z]] ?_
   with_reducible refine (spec_Merge.calls _ _ ((rd_T29 r d).f0) ((rd_T29 r d).f1) ((rd_T29 r d).f2) ((rd_T29 r d).f3) _ _ J X Y Z ga ua va wa _ ?side1 ?side2 ?side3 ?side4 vc.out).mono ?_
   (case side1 => exact cp_ ((Kd.C_below Wa.out x.out)))
   (case side2 => exact lb.out)
   (case side3 => exact cp_ ((Kd.C_below Ra.out x.out)))
   (case side4 => exact Sa.out)
   rintro e Sf ⟨eb, rfl, oa, hb⟩
   refine ⟨_, rfl, ?_⟩
   replace l := Aside0.mk (Kd.S_elder' (sp_ l.out) (Kd.R_base oa) hb)
   have ba := rw_ oa x
   replace c := bk2_ c hb
   replace a := bk2_ a hb
   replace m := bk2_ m hb
   replace q := bk2_ q hb
   replace x := st_ x hb
   (try clear hb)
   (try clear hk)
   (try clear oa)
   refine ho_ hK ⟨bx_ c.out 0, bx_ c.out 1, bx_ a.out 0, bx_ a.out 1, bx_ a.out 2, bx_ a.out 3, ((x.out.cell (World.block_lt_of_cell? w _ F)).trans F), ((x.out.cell (World.block_lt_of_cell? w _ E)).trans E), ((x.out.cell (World.block_lt_of_cell? w _ D)).trans D), ((x.out.cell (World.block_lt_of_cell? w _ B)).trans B)⟩ (fun G => ?_)
   refine o1_ 7 (b_ 8 1) bb (fun K hK => ?_)
   refine bs1_ 9 #[.slice none 0 0, .int .i64 0, .int .i64 0, .string (⟨#[]⟩ : ByteArray)] 29 ?_
   intro I hg Tf z hb
   replace l := se_ l hg hb
   replace ba := rb_ ba hb
   have A := Aside0.mk (z)
   have L := gq_ hg x
   have gb := gq_ hg x
   replace x := st_ x hb
   have M := nk_ c hg
   have N := Ne_.mk (ng_ c.out hg)
   replace c := bk2_ c hb
   have O := nk_ a hg
   have P := Ne_.mk (ng_ a.out hg)
   replace a := bk2_ a hb
   have Q := nk_ m hg
   have T := Ne_.mk (ng_ m.out hg)
   replace m := bk2_ m hb
   have U := nk_ q hg
   have V := Ne_.mk (ng_ q.out hg)
   replace q := bk2_ q hb
   clear hb z hg
   refine ho_ hK ⟨bx_ c.out 0, bx_ c.out 1, bx_ a.out 0, bx_ a.out 1, bx_ a.out 2, bx_ a.out 3, ((x.out.cell (World.block_lt_of_cell? w _ F)).trans F), ((x.out.cell (World.block_lt_of_cell? w _ E)).trans E), ((x.out.cell (World.block_lt_of_cell? w _ D)).trans D), ((x.out.cell (World.block_lt_of_cell? w _ B)).trans B)⟩ (fun G => ?_)
   exact norm_ (by simp only [putAll, fr_]) (Gb (eb, I) _ ⟨G, (Kd.S_mono (sp_ l.out) (fun _ hk => ⟨hk.1.2, ⟨hk.1.1.2, hk.2⟩⟩)), (rp_ ba.out), (pb_ c.out), (pb_ a.out), (pb_ m.out), (pb_ q.out), (pb_ A.out), L.out, gb.out, M.out, N.out, O.out, P.out, Q.out, T.out, U.out, V.out, (hs_ x.out)⟩)
  skip
  refine bs1_ 9 #[.slice none 0 0, .int .i64 0, .int .i64 0, .string (⟨#[]⟩ : ByteArray)] 29 ?_
  intro I hg Sf z hb
  replace l := se_ l hg hb
  have A := Aside0.mk (z)
  have L := gq_ hg x
  have gb := gq_ hg x
  replace x := st_ x hb
  have M := nk_ c hg
  have N := Ne_.mk (ng_ c.out hg)
  replace c := bk2_ c hb
  have O := nk_ a hg
  have P := Ne_.mk (ng_ a.out hg)
  replace a := bk2_ a hb
  have Q := nk_ m hg
  have T := Ne_.mk (ng_ m.out hg)
  replace m := bk2_ m hb
  have U := nk_ q hg
  have V := Ne_.mk (ng_ q.out hg)
  replace q := bk2_ q hb
  clear hb z hg
  refine ho_ hK ⟨bx_ c.out 0, bx_ c.out 1, bx_ a.out 0, bx_ a.out 1, bx_ a.out 2, bx_ a.out 3, ((x.out.cell (World.block_lt_of_cell? w _ F)).trans F), ((x.out.cell (World.block_lt_of_cell? w _ E)).trans E), ((x.out.cell (World.block_lt_of_cell? w _ D)).trans D), ((x.out.cell (World.block_lt_of_cell? w _ B)).trans B)⟩ (fun G => ?_)
  refine o1_ 6 (b_ 8 1) bb (fun K hK => ?_)
  refine gs_ Tryz.func100 #[.agg #[.slice La ((rd_T29 r d).f0).length Ma, .int .i64 ((rd_T29 r d).f1), .int .i64 ((rd_T29 r d).f2), .string ((rd_T29 r d).f3)], .agg #[.slice ca J.length da, .int .i64 X, .int .i64 Y, .string Z]] ?_
  with_reducible refine (spec_Merge.calls _ _ ((rd_T29 r d).f0) ((rd_T29 r d).f1) ((rd_T29 r d).f2) ((rd_T29 r d).f3) _ _ J X Y Z ga ua va wa _ ?side1 ?side2 ?side3 ?side4 vc.out).mono ?_
  (case side1 => exact cp_ ((Kd.C_below Wa.out x.out)))
  (case side2 => exact lb.out)
  (case side3 => exact cp_ ((Kd.C_below Ra.out x.out)))
  (case side4 => exact Sa.out)
  rintro e Tf ⟨eb, rfl, oa, hb⟩
  refine ⟨_, rfl, ?_⟩
  replace l := Aside0.mk (Kd.S_elder' (sp_ l.out) (Kd.R_base oa) hb)
  have ba := rw_ oa x
  replace c := bk2_ c hb
  replace a := bk2_ a hb
  replace m := bk2_ m hb
  replace q := bk2_ q hb
  replace A := bk2_ A hb
  replace x := st_ x hb
  (try clear hb)
  (try clear hk)
  (try clear oa)
  refine ho_ hK ⟨bx_ c.out 0, bx_ c.out 1, bx_ a.out 0, bx_ a.out 1, bx_ a.out 2, bx_ a.out 3, ((x.out.cell (World.block_lt_of_cell? w _ F)).trans F), ((x.out.cell (World.block_lt_of_cell? w _ E)).trans E), ((x.out.cell (World.block_lt_of_cell? w _ D)).trans D), ((x.out.cell (World.block_lt_of_cell? w _ B)).trans B)⟩ (fun G => ?_)
  exact norm_ (by simp only [putAll, fr_]) (Gb (eb, I) _ ⟨G, (Kd.S_mono (sp_ l.out) (fun _ hk => ⟨hk.2, ⟨hk.1.1.2, hk.1.2⟩⟩)), (rp_ ba.out), (pb_ c.out), (pb_ a.out), (pb_ m.out), (pb_ q.out), (pb_ A.out), L.out, gb.out, M.out, N.out, O.out, P.out, Q.out, T.out, U.out, V.out, (hs_ x.out)⟩)
 rintro ⟨eb, I⟩ ha ⟨Uf, zc, Ac, Bc, Cc, Dc, Ec, Fc, Gc, Hc, Ic, Qb, Rb, Sb, Tb, Ub, Vb, Wb, Xb⟩
 replace l : Aside0 (Kd.S k29 29 ha w.heap.size (fun k_ => some k_ ≠ (eb : Value).ownBlock ∧ k_ ≠ s ∧ k_ ≠ I) (.slice Va y.length xa) y) := ⟨zc⟩
 have ba : Aside0 (Kd.R k99 99 ha w.heap.size (fun _ => True) eb ga) := ⟨Ac⟩
 replace c : Aside0 (ha.heap[aa]? = some (.cells #[.int .i64 W, .slice (some u) r.length ea] 80 (0, 0))) := ⟨Bc⟩
 replace a : Aside0 (ha.heap[s]? = some (.cells #[.slice ca J.length da, .int .i64 X, .int .i64 Y, .string Z] 29 (0, 0))) := ⟨Cc⟩
 replace m : Aside0 (ha.heap[ia]? = some (.cells #[.int .i64 0, .slice none 0 0] 80 (0, 0))) := ⟨Dc⟩
 replace q : Aside0 (ha.heap[pa]? = some (.cells #[.int .i64 ma, .slice Va y.length xa] 80 (0, 0))) := ⟨Ec⟩
 have A : Aside0 (ha.heap[I]? = some (.cells #[.slice none 0 0, .int .i64 0, .int .i64 0, .string (⟨#[]⟩ : ByteArray)] 29 (0, 0))) := ⟨Fc⟩
 have L := Ge_.mk Gc
 have gb := Ge_.mk Hc
 have M := Ne_.mk Ic
 have N := Ne_.mk Qb
 have O := Ne_.mk Rb
 have P := Ne_.mk Sb
 have Q := Ne_.mk Tb
 have T := Ne_.mk Ub
 have U := Ne_.mk Vb
 have V := Ne_.mk Wb
 replace x : Aside0 (Below w.heap.size w ha) := ⟨Xb⟩
 clear zc Ac Bc Cc Dc Ec Fc Gc Hc Ic Qb Rb Sb Tb Ub Vb Wb Xb
 have G : ha.cell? ⟨aa, 0, none⟩ = some (.int .i64 W) ∧ ha.cell? ⟨aa, 1, none⟩ = some (.slice (some u) r.length ea) ∧ ha.cell? ⟨s, 0, none⟩ = some (.slice ca J.length da) ∧ ha.cell? ⟨s, 1, none⟩ = some (.int .i64 X) ∧ ha.cell? ⟨s, 2, none⟩ = some (.int .i64 Y) ∧ ha.cell? ⟨s, 3, none⟩ = some (.string Z) ∧ ha.cell? (u.add ((d).toNat * 4)) = some (.slice La ((rd_T29 r d).f0).length Ma) ∧ ha.cell? ⟨(u.add ((d).toNat * 4)).block, (u.add ((d).toNat * 4)).off + 1, none⟩ = some (.int .i64 ((rd_T29 r d).f1)) ∧ ha.cell? ⟨(u.add ((d).toNat * 4)).block, (u.add ((d).toNat * 4)).off + 2, none⟩ = some (.int .i64 ((rd_T29 r d).f2)) ∧ ha.cell? ⟨(u.add ((d).toNat * 4)).block, (u.add ((d).toNat * 4)).off + 3, none⟩ = some (.string ((rd_T29 r d).f3)) := Uf
 obtain ⟨Xa, Ya, Yb⟩ := Kd.R_slice ba.out
 (first | subst Yb | (obtain ⟨rfl, rfl⟩ := si_ Yb))
 refine nm_ ?_
 refine o1_ 8 (b_ 9 0) bb (fun K hK => ?_)
 have Gg : ha.cell? ⟨I, 0, none⟩ = some (.slice none 0 0) := bx_ A.out 0
 have Vf := blk_frozen A.out 0
 have Jc := M.out
 have Kc := O.out
 have Lc := Q.out
 have Mc := U.out
 have Nc := N.out
 have Oc := P.out
 have Pc := T.out
 have Qc := V.out
 have Hg : ha.cell? ⟨I, 1, none⟩ = some (.int .i64 0) := bx_ A.out 1
 have Wf := blk_frozen A.out 1
 have Rc := M.out
 have Sc := O.out
 have Tc := Q.out
 have Uc := U.out
 have Vc := N.out
 have Wc := P.out
 have Xc := T.out
 have Yc := V.out
 have Ig : ha.cell? ⟨I, 2, none⟩ = some (.int .i64 0) := bx_ A.out 2
 have Xf := blk_frozen A.out 2
 have Zc := M.out
 have ad := O.out
 have bd := Q.out
 have cd := U.out
 have dd := N.out
 have ed := P.out
 have fd := T.out
 have gd := V.out
 have Jg : ha.cell? ⟨I, 3, none⟩ = some (.string (⟨#[]⟩ : ByteArray)) := bx_ A.out 3
 have Yf := blk_frozen A.out 3
 have hd := M.out
 have jd := O.out
 have kd := Q.out
 have ld := U.out
 have md := N.out
 have nd := P.out
 have od := T.out
 have pd := V.out
 refine skip_ (w1 := ?_) (by rfl) rfl ?_ ?_
 rotate_left
 ·
  go_simp
  rfl
 refine hK.out _ _ ⟨(cg_ (G.1)), (cg_ (G.2.1)), (cg_ (G.2.2.1)), (cg_ (G.2.2.2.1)), (cg_ (G.2.2.2.2.1)), (cg_ (G.2.2.2.2.2.1)), (ce_ F L.out ((ce_ F L.out ((ce_ F L.out ((ce_ F L.out (G.2.2.2.2.2.2.1)))))))), (ce_ E L.out ((ce_ E L.out ((ce_ E L.out ((ce_ E L.out (G.2.2.2.2.2.2.2.1)))))))), (ce_ D L.out ((ce_ D L.out ((ce_ D L.out ((ce_ D L.out (G.2.2.2.2.2.2.2.2.1)))))))), (ce_ B L.out ((ce_ B L.out ((ce_ B L.out ((ce_ B L.out (G.2.2.2.2.2.2.2.2.2))))))))⟩ (fun G => ?_)
 clear hK K
 refine done_ (done_of bb.out (by kernel_rfl)) ?_
 generalize hw_ : ((((ha.setCell ⟨I, 0, none⟩ (.slice Xa ga.length Ya)).setCell ⟨I, 1, none⟩ (.int .i64 ua)).setCell ⟨I, 2, none⟩ (.int .i64 va)).setCell ⟨I, 3, none⟩ (.string wa)) = la
 have qd : Aside0 (Kd.S k29 29 la w.heap.size (fun k_ => some k_ ≠ (.slice Xa ga.length Ya : Value).ownBlock ∧ k_ ≠ s ∧ k_ ≠ I) (.slice Va y.length xa) y) := ⟨by rw [← hw_]; exact (Kd.S_mono (sf_ I l.out (fun _ hk => hk.2.2)) (fun _ hk => ⟨hk.1, ⟨hk.2.1, hk.2.2⟩⟩))⟩
 have rd : Aside0 (Kd.R k99 99 la w.heap.size (fun _ => True) (.slice Xa ga.length Ya) ga) := ⟨by rw [← hw_]; exact (Kd.R_mono (ry_ ba.out A.out) (fun _ hk => trivial))⟩
 have sd : Aside0 (la.heap[aa]? = some (.cells #[.int .i64 W, .slice (some u) r.length ea] 80 (0, 0))) := ⟨by rw [← hw_]; exact (bq_ c.out)⟩
 have td : Aside0 (la.heap[s]? = some (.cells #[.slice ca J.length da, .int .i64 X, .int .i64 Y, .string Z] 29 (0, 0))) := ⟨by rw [← hw_]; exact (bq_ a.out)⟩
 have ud : Aside0 (la.heap[ia]? = some (.cells #[.int .i64 0, .slice none 0 0] 80 (0, 0))) := ⟨by rw [← hw_]; exact (bq_ m.out)⟩
 have vd : Aside0 (la.heap[pa]? = some (.cells #[.int .i64 ma, .slice Va y.length xa] 80 (0, 0))) := ⟨by rw [← hw_]; exact (bq_ q.out)⟩
 have wd : Aside0 (la.heap[I]? = some (.cells #[.slice Xa ga.length Ya, .int .i64 ua, .int .i64 va, .string wa] 29 (0, 0))) := ⟨by rw [← hw_]; exact (bp_ A.out)⟩
 have xd : Aside0 (Below w.heap.size w la) := ⟨by rw [← hw_]; exact (hs_ x.out)⟩
 clear hw_
 (try clear l)
 (try clear ba)
 (try clear c)
 (try clear a)
 (try clear m)
 (try clear q)
 (try clear A)
 (try clear x)
 have l := qd
 have ba := rd
 have c := sd
 have a := td
 have m := ud
 have q := vd
 have A := wd
 have x := xd
 clear qd rd sd td ud vd wd xd
 have Zf := U.out
 have ag := V.out
 obtain ⟨bg, cg, dg, eg⟩ := bc2_ q.out
 have fg := N.out
 have gg := M.out
 have ig := P.out
 have jg := O.out
 have kg := T.out
 have lg := Q.out
 obtain ⟨mg, ng, og, pg, qg, rg, sg, tg⟩ := bc4_ A.out
 obtain ⟨ic, jc⟩ : 0 ≤ (d : Int) ∧ (d : Int) < ((y.length : Int) : Int) := pq_
 obtain ⟨go45, Kg, Zb, ac, gl45, cl45, HG45⟩ := Kd.S_form l.out (by omega)
 (first | cases Zb | (injection Zb with ea_ en_ ec_; (first | subst ea_ | (injection ea_ with ea_; subst ea_)); subst ec_; clear en_))
 have GB45 := Aside0.mk ac
 have GG45 := Aside0.mk HG45
 clear ac gl45 HG45
 obtain ⟨_, Lg, hcl45, hM45, Za, hfr45, _, _⟩ := Kd.S_elem l.out z29 (d : Int) ic jc
 obtain ⟨Ib, rfl, yd⟩ := k29_openM hM45
 have zd : la.cell? ⟨go45, (d : Int).toNat * 4, none⟩ = some (Ib) := Za 0 _ rfl
 have Ad : la.cell? ⟨go45, (d : Int).toNat * 4 + 1, none⟩ = some (.int .i64 ((rd_T29 y d).f1)) := Za 1 _ rfl
 have Bd : la.cell? ⟨go45, (d : Int).toNat * 4 + 2, none⟩ = some (.int .i64 ((rd_T29 y d).f2)) := Za 2 _ rfl
 have Cd : la.cell? ⟨go45, (d : Int).toNat * 4 + 3, none⟩ = some (.string ((rd_T29 y d).f3)) := Za 3 _ rfl
 have hf45_0 : la.frozen? ⟨go45, (d : Int).toNat * 4, none⟩ = false := hfr45 0
 have hf45_1 : la.frozen? ⟨go45, (d : Int).toNat * 4 + 1, none⟩ = false := hfr45 1
 have hf45_2 : la.frozen? ⟨go45, (d : Int).toNat * 4 + 2, none⟩ = false := hfr45 2
 have hf45_3 : la.frozen? ⟨go45, (d : Int).toNat * 4 + 3, none⟩ = false := hfr45 3
 clear hcl45 Za hfr45 hM45
 replace ic := eq_true ic; replace jc := eq_true jc
 have HX79 := Aside0.mk (show Kd.S k29 29 la w.heap.size (fun k_ => ((fun k_ => k_ ≠ s ∧ k_ ≠ I)) k_ ∧ ¬ ((fun k_ => some k_ = (.slice Xa ga.length Ya : Value).ownBlock)) k_) (.slice (some ⟨go45, 0, none⟩) y.length xa) y from (Kd.S_mono (sp_ l.out) (fun k_ hk => ⟨⟨hk.2.1, hk.2.2⟩, fun e_ => hk.1 e_⟩)))
 obtain ⟨oki79, Mg, hcl79, hM79, ab, hfr79, hoki79, hH79⟩ := Kd.S_elem HX79.out z29 (d : Int) (of_decide_eq_true (by with_reducible assumption)) (by have h_ : (d : Int) < ((y.length : Int) : Int) := of_decide_eq_true (by with_reducible assumption); first | exact h_ | (have e_ := (Kd.S_reads' l.out).1; omega) | simpa using h_)
 obtain ⟨Dd, rfl, Ed⟩ := k29_openM hM79
 have HP79 := Kd.S_seg hH79 (of_decide_eq_true (by with_reducible assumption)) (by have h_ : (d : Int) < ((y.length : Int) : Int) := of_decide_eq_true (by with_reducible assumption); first | exact h_ | (have e_ := (Kd.S_reads' l.out).1; omega) | simpa using h_) (seg := [.slice Xa ga.length Ya, .int .i64 ua, .int .i64 va, .string wa]) (j := 0) (show 4 ≤ 4 from by decide) (x' := (⟨ga, ua, va, wa⟩ : S29)) (k29_mkM _ _ _ (⟨ga, ua, va, wa⟩ : S29) (Kd.R_mono (Kd.R_tight rfl (Kd.R_mono (ok' := fun k_ => ((fun k_ => k_ ≠ s ∧ k_ ≠ I)) k_ ∧ k_ ≠ go45) (Kd.R_types (Kd.R_types (Kd.R_apart' (ba.out) (Kd.S_typed l.out) (by decide)) a.out (by decide)) A.out (by decide)) (fun k_ hk => ⟨⟨hk.1.2, hk.2⟩, fun e_ => (hk.1.1.2) (by rw [e_]; rfl)⟩))) (fun _ h_ => Or.inr (h_)))) (fun _ hk => hk) (fun k_ hk_ => ((Kd.R_mono (ok' := fun k_ => ((fun k_ => k_ ≠ s ∧ k_ ≠ I)) k_ ∧ k_ ≠ go45) (Kd.R_types (Kd.R_types (Kd.R_apart' (ba.out) (Kd.S_typed l.out) (by decide)) a.out (by decide)) A.out (by decide)) (fun k_ hk => ⟨⟨hk.1.2, hk.2⟩, fun e_ => (hk.1.1.2) (by rw [e_]; rfl)⟩))).1 k_ hk_.symm)
 have Jb := ab 0 _ rfl
 (try simp only [show (k29).sz = 4 from rfl, Nat.mul_one, Nat.add_zero] at Jb)
 have hf79_0 := hfr79 0
 (try simp only [show (k29).sz = 4 from rfl, Nat.mul_one, Nat.add_zero] at hf79_0)
 have Kb := ab 1 _ rfl
 (try simp only [show (k29).sz = 4 from rfl, Nat.mul_one, Nat.add_zero] at Kb)
 have hf79_1 := hfr79 1
 (try simp only [show (k29).sz = 4 from rfl, Nat.mul_one, Nat.add_zero] at hf79_1)
 have Lb := ab 2 _ rfl
 (try simp only [show (k29).sz = 4 from rfl, Nat.mul_one, Nat.add_zero] at Lb)
 have hf79_2 := hfr79 2
 (try simp only [show (k29).sz = 4 from rfl, Nat.mul_one, Nat.add_zero] at hf79_2)
 have Mb := ab 3 _ rfl
 (try simp only [show (k29).sz = 4 from rfl, Nat.mul_one, Nat.add_zero] at Mb)
 have hf79_3 := hfr79 3
 (try simp only [show (k29).sz = 4 from rfl, Nat.mul_one, Nat.add_zero] at hf79_3)
 clear hcl79 ab hfr79 hM79 hoki79 hH79
 try go_wp2_with (first | ((with_reducible refine gate_store (t := 29) (p := 38) rfl ?_); refine store_event (t := 29) (p := 38) (v := ?vo_w80) (w1 := ((((la.setCell ⟨go45, (d : Int).toNat * 4, none⟩ (.slice Xa ga.length Ya)).setCell ⟨go45, (d : Int).toNat * 4 + 1, none⟩ (.int .i64 ua)).setCell ⟨go45, (d : Int).toNat * 4 + 2, none⟩ (.int .i64 va)).setCell ⟨go45, (d : Int).toNat * 4 + 3, none⟩ (.string wa))) ?hg ?ho ?hn ?hr ?_; (case ho => rfl); (case hg => rfl); (case hn => rfl); (case hr => first | (go_simp; done) | (go_simp; rfl)); intro kc hw; have hg : la.grownBy kc (some go45) := (by rw [hw]; exact HP79.2); have hp_ : Kd.S k29 29 kc w.heap.size (fun k_ => k_ ≠ s ∧ k_ ≠ I) (.slice (some ⟨go45, 0, none⟩) y.length xa) Pb := (by rw [hw, hc.out]; exact HP79.1); clear HP79; replace c := Aside0.mk (blk_grown (bq_ c.out) hg (Kd.S_ne l.out c.out (by decide))); replace a := Aside0.mk (blk_grown (bq_ a.out) hg (Kd.S_away l.out (fun _ hk => hk.2.1))); replace m := Aside0.mk (blk_grown (bq_ m.out) hg (Kd.S_ne l.out m.out (by decide))); replace q := Aside0.mk (blk_grown (bq_ q.out) hg (Kd.S_ne l.out q.out (by decide))); replace A := Aside0.mk (blk_grown (bq_ A.out) hg (Kd.S_away l.out (fun _ hk => hk.2.2))); replace l := Aside0.mk (hp_); replace x := Aside0.mk ((by rw [hw]; exact below_set (below_set (below_set (below_set (x.out) GB45.out) GB45.out) GB45.out) GB45.out : Below w.heap.size w kc)); clear ba; clear hg hw hp_; obtain ⟨ug, vg, wg, xg⟩ := bc2_ q.out; obtain ⟨yg, zg, Ag, Bg⟩ := bc2_ m.out))
 refine bodyPost_ret (results_ct rfl _ _ ia 80 #[.int .i64 ma, .slice (some ⟨go45, 0, none⟩) y.length xa] (0, 0) _ rfl (bp_ m.out) Tryz.underlying80 rfl (by kernel_rfl)) rfl ?_
 exact ⟨_, rr_, Kd.S_mono (sy_ l.out m.out) (fun _ hk => trivial), hs_ x.out⟩
mutual
def spec_PutIn.l0 : Nat → Int → Int → Int → Int → List (S80) → List (S99) → Int → Int → ByteArray → Int → Int → List (S80) → Option (Int × Int × (List (S80)) × Bool)
 | 0, _, _, _, _, _, _, _, _, _, _, _, _ => none
 | k + 1, x7, x8, x240000, x240001, x240002, x241000, x241001, x241002, x241003, x248000, x248001, x248002 => if x8 < (x240002.length : Int) then (if 0 ≤ x8 then (spec_PutIn.j1 k x7 x8 (decide (((rd_T80 x240002 x8).f0) < x7)) x240000 x240001 x240002 x241000 x241001 x241002 x241003 x248000 x248001 x248002) else (none)) else (spec_PutIn.j1 k x7 x8 false x240000 x240001 x240002 x241000 x241001 x241002 x241003 x248000 x248001 x248002)
def spec_PutIn.j1 : Nat → Int → Int → Bool → Int → Int → List (S80) → List (S99) → Int → Int → ByteArray → Int → Int → List (S80) → Option (Int × Int × (List (S80)) × Bool)
 | 0, _, _, _, _, _, _, _, _, _, _, _, _, _ => none
 | k + 1, x7, x8, x57, x240000, x240001, x240002, x241000, x241001, x241002, x241003, x248000, x248001, x248002 => if x57 = true then (spec_PutIn.l0 k x7 (wrap64 (x8 + 1)) x240000 x240001 x240002 x241000 x241001 x241002 x241003 x248000 x248001 x248002) else ((spec_l4Copy.f x241000 x241001 x241002 x241003).bind fun bt259 => ((some (([] : List (S80)) : List (S80))).bind fun y269 => (if 0 ≤ x8 then (if x8 ≤ (x248002.length : Int) then ((some (x248002.drop (x8 : Int).toNat : List (S80))).bind fun y275 => ((some (x248002.take (x8 : Int).toNat : List (S80))).bind fun y272 => (if y269.length + y272.length < 4398046511104 then ((some (y269 ++ y272 : List (S80))).bind fun y279 => (if y279.length < 4398046511104 then ((some (y279 ++ [(⟨x7, (([(⟨bt259.1, bt259.2.1, bt259.2.2.1, bt259.2.2.2⟩ : S29)] : List (S29)))⟩ : S80)] : List (S80))).bind fun y283 => (if y283.length + y275.length < 4398046511104 then (some (x248000, x248001, (y283 ++ y275), true)) else (none))) else (none))) else (none)))) else (none)) else (none))))
end
def spec_PutIn.f (k : Nat) (a0_0 : Int) (a0_1 : Int) (l0_2 : List (S80)) (l1_0 : List (S99)) (a1_1 : Int) (a1_2 : Int) (a1_3 : ByteArray) : Option (Int × Int × (List (S80)) × Bool) := (spec_l7Copy.f k a0_0 a0_1 l0_2).bind fun bt242 => ((spec_Finger.f k l1_0).bind fun t248 => ((spec_l7At.f k a0_0 a0_1 l0_2 t248).bind fun t249 => (if t249 ≥ 0 then (if 0 ≤ t249 then (if t249 < (l0_2.length : Int) then ((spec_PutChain.f k ((rd_T80 l0_2 t249).f0) ((rd_T80 l0_2 t249).f1) l1_0 a1_1 a1_2 a1_3).bind fun bt251 => (if t249 < (bt242.2.2.length : Int) then (some (bt242.1, wrap64 (a0_1 + 1), (bt242.2.2.set (t249 : Int).toNat (⟨bt251.1, bt251.2.1⟩ : S80)), bt251.2.2)) else (none))) else (none)) else (none)) else (spec_PutIn.l0 k t248 0 a0_0 a0_1 l0_2 l1_0 a1_1 a1_2 a1_3 bt242.1 (wrap64 (a0_1 + 1)) bt242.2.2))))
def spec_PutIn.T6 : Bool × List (List Nat × List Nat) := (true, [([], []), ([0], [0]), ([], []), ([1, 2], [1, 2]), ([3], [3]), ([], []), ([4, 5], [4, 5]), ([6], [6]), ([7], [7]), ([7], [7]), ([], []), ([10, 8, 6, 0, 1, 2, 3, 4, 5, 6, 7, 8, 10], [8, 10]), ([9, 11, 0, 1, 2, 3, 4, 5, 6, 7, 8, 9, 10, 11], [9])])
def spec_PutIn.B6 : List Nat := [0, 1, 0, 7, 15, 0, 63, 127, 255, 255, 0, 1535, 4095]
theorem spec_PutIn.tab6 : rtab .any (opsOf Tryz.f9 6) = spec_PutIn.T6 := by kernel_rfl
theorem spec_PutIn.bits6 : waitsOk spec_PutIn.T6.2 spec_PutIn.B6 = true := by kernel_rfl
def spec_PutIn.T13 : Bool × List (List Nat × List Nat) := (true, [([], []), ([], []), ([1], [1]), ([], []), ([2, 3], [2, 3]), ([0, 4], [0, 4]), ([], []), ([6], [6]), ([5, 7, 5], [5, 7]), ([], []), ([9], [9]), ([], []), ([10, 11], [10, 11]), ([8, 12, 8], [8, 12]), ([0, 1, 2, 3, 4, 5, 6, 7, 8, 9, 10, 11, 12, 13], []), ([14, 13, 13, 0, 1, 2, 3, 4, 5, 6, 7, 8, 9, 10, 11, 12, 13], [13, 14])])
def spec_PutIn.B13 : List Nat := [0, 0, 2, 0, 14, 31, 0, 64, 255, 0, 512, 0, 3584, 8191, 16383, 32767]
theorem spec_PutIn.tab13 : rtab .any (opsOf Tryz.f9 13) = spec_PutIn.T13 := by kernel_rfl
theorem spec_PutIn.bits13 : waitsOk spec_PutIn.T13.2 spec_PutIn.B13 = true := by kernel_rfl
theorem spec_PutIn.calls (k : Nat) (da : Int) (A : Int) (cb : Option Addr) (Fa : Nat) (E : List (S80)) (ha : Option Addr) (ia : Nat) (R : List (S99)) (Y : Int) (Z : Int) (aa : ByteArray) (r1 : Int) (r2 : Int) (r3 : List (S80)) (r4 : Bool) (w : World) (Lc : Kd.C k80 w cb E.length E) (Mc : E.length ≤ Fa) (Nc : Kd.C k99 w ha R.length R) (Oc : R.length ≤ ia) (h : spec_PutIn.f k da A E R Y Z aa = some (r1, r2, r3, r4)) :
  Calls Tryz.prog 9 #[.agg #[.int .i64 da, .int .i64 A, .slice cb E.length Fa], .agg #[.slice ha R.length ia, .int .i64 Y, .int .i64 Z, .string aa]] w fun e w' => ∃ v2_ : Value, e = .returned (.tuple #[.agg #[.int .i64 r1, .int .i64 r2, v2_], .bool r4]) ∧ Kd.S k80 80 w' w.heap.size (fun _ => True) v2_ r3 ∧ Below w.heap.size w w' := by
 have hu26 := Tryz.underlying26
 have hu29 := Tryz.underlying29
 have hu80 := Tryz.underlying80
 have zb := Aside0.mk Lc
 have Sb := Aside0.mk Mc
 clear Lc Mc
 have Eb := Aside0.mk Nc
 have Fb := Aside0.mk Oc
 clear Nc Oc
 have J := Aside0.mk (Below.refl w.heap.size w)
 have H : ((spec_l7Copy.f k da A E).bind fun bt242 => ((spec_Finger.f k R).bind fun M => ((spec_l7At.f k da A E M).bind fun F => (if F ≥ 0 then (if 0 ≤ F then (if F < (E.length : Int) then ((spec_PutChain.f k ((rd_T80 E F).f0) ((rd_T80 E F).f1) R Y Z aa).bind fun bt251 => (if F < (bt242.2.2.length : Int) then (some (bt242.1, wrap64 (A + 1), (bt242.2.2.set (F : Int).toNat (⟨bt251.1, bt251.2.1⟩ : S80)), bt251.2.2)) else (none))) else (none)) else (none)) else (spec_PutIn.l0 k M 0 da A E R Y Z aa bt242.1 (wrap64 (A + 1)) bt242.2.2))))) = some (r1, r2, r3, r4) := h
 clear h
 replace H := bi_ H; obtain ⟨⟨fa, Ed, s⟩, A3, H⟩ := H; (try dsimp only at H)
 replace H := bi_ H; obtain ⟨M, A4, H⟩ := H
 replace H := bi_ H; obtain ⟨F, A5, H⟩ := H
 replace H := ie_ H; rcases H with ⟨c6, H⟩ | ⟨c6, H⟩
 ·
  have we : decide (0 ≤ F) = true := decide_eq_true c6
  clear c6
  replace H := id_ H; obtain ⟨qj, H⟩ := H
  replace H := id_ H; obtain ⟨rj, H⟩ := H
  replace H := bi_ H; obtain ⟨⟨lb, db, Qb⟩, A9, H⟩ := H; (try dsimp only at H)
  replace H := id_ H; obtain ⟨Nf, H⟩ := H
  obtain ⟨Fd, hy_⟩ : ∃ y_ : List (S80), y_ = (s.set (F : Int).toNat (⟨lb, db⟩ : S80)) := ⟨_, rfl⟩
  replace H : (some (fa, wrap64 (A + 1), Fd, Qb)) = some (r1, r2, r3, r4) := hm_
  have Sd := Aside0.mk hy_; clear hy_
  simp only [Option.some.injEq, Prod.mk.injEq] at H
  obtain ⟨rfl, rfl, rfl, rfl⟩ := H
  go_enter Tryz.func9, Tryz.ntmps9
  try go_wp2_with (first | ((with_reducible refine gd_ 2 rfl ?_); refine bv_ 2 #[.int .i64 da, .int .i64 A, .slice cb E.length Fa] 26 ?_; intro ca hg Ej Q hb; have b := Aside0.mk (Q); have qc := gq_ hg J; replace J := st_ J hb; have Td := Ge_.mk qc.out; clear hb Q hg) | ((with_reducible refine gd_ 3 rfl ?_); refine bv_ 3 #[.slice ha R.length ia, .int .i64 Y, .int .i64 Z, .string aa] 29 ?_; intro m hg Fj Q hb; have a := Aside0.mk (Q); have rc := gq_ hg J; replace J := st_ J hb; have Ud := Ge_.mk rc.out; obtain ⟨Ia, Ja, b⟩ := nb_ b hg hb; clear hb Q hg) | ((with_reducible refine gd_ 4 rfl ?_); refine bv_ 4 #[.int .i64 0, .int .i64 0, .slice none 0 0] 26 ?_; intro qa hg Gj Q hb; have l := Aside0.mk (Q); have sc := gq_ hg J; replace J := st_ J hb; have Vd := Ge_.mk sc.out; obtain ⟨Ka, La, b⟩ := nb_ b hg hb; obtain ⟨ib, jb, a⟩ := nb_ a hg hb; clear hb Q hg; have Of := Ia.out; have Pf := Ja.out; have Qf := Ka.out; have Rf := La.out; obtain ⟨Sf, Tf, Uf, Vf, Wf, Xf⟩ := bc3_ b.out) | ((with_reducible refine gate_callee (f := 59) rfl ?_); refine gl_ (some 13) Tryz.func59 #[.agg #[.int .i64 da, .int .i64 A, .slice cb E.length Fa]] ?_; (with_reducible refine (spec_l7Copy.calls k da A _ _ E fa Ed s _ ?side1 ?side2 A3.out).mono ?_); (case side1 => exact cp_ ((Kd.C_below zb.out J.out))); (case side2 => exact Sb.out); rintro e Hj ⟨xe, rfl, kb, hb⟩; refine ⟨_, rfl, ?_⟩; obtain ⟨T, tc⟩ := Kd.S_name kb; have u := Aside0.mk (Kd.S_lower (Kd.S_newB (Kd.S_gez tc kb) (pb_ a.out)) (below_size (hs_ J.out))); replace b := bk2_ b hb; replace a := bk2_ a hb; replace l := bk2_ l hb; replace J := st_ J hb; (try clear hb); (try clear hk); (try clear kb)) | ((with_reducible refine gd_ 6 rfl ?_); refine bv_ 6 #[.int .i64 0, .int .i64 0, .slice none 0 0] 26 ?_; intro y hg Ij Q hb; replace u := Aside0.mk (Kd.S_below (Kd.S_ltz hg (sp_ u.out)) hb); have c := Aside0.mk (Q); have uc := gq_ hg J; replace J := st_ J hb; have Wd := Ge_.mk uc.out; obtain ⟨ra, sa, b⟩ := nb_ b hg hb; obtain ⟨Va, Wa, a⟩ := nb_ a hg hb; obtain ⟨Xa, Ya, l⟩ := nb_ l hg hb; clear hb Q hg; have Yf := sa.out; have Zf := ra.out; have ag := Wa.out; have bg := Va.out; have cg := Ya.out; have dg := Xa.out; obtain ⟨eg, fg, gg, ig, jg, kg⟩ := bc3_ c.out; obtain ⟨Gb, qb, ye⟩ := Kd.S_slice u.out; subst ye; obtain ⟨lg, mg, ng, og, pg, qg⟩ := bc3_ b.out; have rg := ib.out; have sg := jb.out; obtain ⟨tg, ug, vg, wg, xg, yg, zg, Ag⟩ := bc4_ a.out) | ((with_reducible refine gate_callee (f := 60) rfl ?_); refine gl_ (some 20) Tryz.func60 #[.slice ha R.length ia] ?_; (with_reducible refine (spec_Finger.calls k _ _ R M _ ?side1 ?side2 A4.out).mono ?_); (case side1 => exact Kd.C_below Eb.out (hs_ J.out)); (case side2 => exact Fb.out); rintro e Jj ⟨rfl, hb⟩; refine ⟨_, rfl, ?_⟩; replace u := Aside0.mk (Kd.S_below (sy_ u.out c.out) hb); replace b := bk2_ b hb; replace a := bk2_ a hb; replace l := bk2_ l hb; replace c := by_ c #[.int .i64 fa, .int .i64 (wrap64 (A + 1)), .slice Gb s.length qb] hb; replace J := st_ J hb; (try clear hb); (try clear hk); obtain ⟨Bg, Cg, Dg, Eg, Fg, Gg⟩ := bc3_ b.out) | ((with_reducible refine gate_callee (f := 61) rfl ?_); refine gl_ (some 23) Tryz.func61 #[.agg #[.int .i64 da, .int .i64 A, .slice cb E.length Fa], .int .i64 M] ?_; (with_reducible refine (spec_l7At.calls k da A _ _ E M F _ ?side1 ?side2 A5.out).mono ?_); (case side1 => exact cp_ ((Kd.C_below zb.out J.out))); (case side2 => exact Sb.out); rintro e Hg ⟨rfl, hb⟩; refine ⟨_, rfl, ?_⟩; replace u := sb_ u hb; replace b := bk2_ b hb; replace a := bk2_ a hb; replace l := bk2_ l hb; replace c := bk2_ c hb; replace J := st_ J hb; (try clear hb); (try clear hk)))
  replace u := Aside0.mk (Kd.S_drew u.out)
  replace b := Aside0.mk (blk_drew b.out)
  replace a := Aside0.mk (blk_drew a.out)
  replace l := Aside0.mk (blk_drew l.out)
  replace c := Aside0.mk (blk_drew c.out)
  replace J := Aside0.mk (bd_ J.out)
  obtain ⟨Pc, Qc⟩ : 0 ≤ (F : Int) ∧ F < (E.length : Int) := pq_
  obtain ⟨ta, ub, vb, ze, eb, mb, Xb, Yb⟩ := at_T80 zb.out F Pc Qc
  have ja := mb
  have ka := eb
  cases ze
  replace eb := c2_ J eb mb; clear mb; obtain ⟨eb, mb⟩ := eb
  have Hb := Aside0.mk Yb
  have Zb := Aside0.mk Xb
  clear Yb Xb
  replace Pc := eq_true Pc; replace Qc := eq_true Qc
  refine start_ (n := 13) (S := fun w' => w'.cell? ⟨ca, 0, none⟩ = some (.int .i64 da) ∧ w'.cell? ⟨ca, 1, none⟩ = some (.int .i64 A) ∧ w'.cell? ⟨ca, 2, none⟩ = some (.slice (some ta) E.length Fa) ∧ w'.cell? ⟨m, 0, none⟩ = some (.slice ha R.length ia) ∧ w'.cell? ⟨m, 1, none⟩ = some (.int .i64 Y) ∧ w'.cell? ⟨m, 2, none⟩ = some (.int .i64 Z) ∧ w'.cell? ⟨m, 3, none⟩ = some (.string aa) ∧ w'.cell? (ta.add ((F).toNat * 2)) = some (.int .i64 ((rd_T80 E F).f0)) ∧ w'.cell? ⟨(ta.add ((F).toNat * 2)).block, (ta.add ((F).toNat * 2)).off + 1, none⟩ = some (.slice ub ((rd_T80 E F).f1).length vb)) (ds := []) (b_ 0 13) (by kernel_rfl) rfl rfl ⟨bx_ b.out 0, bx_ b.out 1, bx_ b.out 2, bx_ a.out 0, bx_ a.out 1, bx_ a.out 2, bx_ a.out 3, ((J.out.cell (World.block_lt_of_cell? w _ ka)).trans ka), ((J.out.cell (World.block_lt_of_cell? w _ ja)).trans ja)⟩ (fun B => ?_); refine with_tabW spec_PutIn.tab6 spec_PutIn.bits6 (fun ma Kc => ?_)
  generalize Hg.drew = Kj at u b a l c J Hb eb mb B ⊢
  refine p_ ma ?_
  refine qw_ 2 (m_ 13 5) ma ?_
  refine qt_ 1 (b_ 3 10) ma Kc B ?_
  refine p_ ma ?_
  iterate 2 refine t0_ ma Kc B ?_
  refine join_ (σ := Value × Nat × Nat) 2 (b_ 11 2) (fun s_ => [(33, .tuple #[.agg #[.int .i64 lb, s_.1], .bool Qb]), (9, .pointer (some ⟨s_.2.2, 0, none⟩)), (26, .tuple #[.agg #[.int .i64 lb, s_.1], .bool Qb]), (34, .agg #[.int .i64 lb, s_.1]), (35, .bool Qb)]) (fun s_ w' => (w'.cell? ⟨ca, 0, none⟩ = some (.int .i64 da) ∧ w'.cell? ⟨ca, 1, none⟩ = some (.int .i64 A) ∧ w'.cell? ⟨ca, 2, none⟩ = some (.slice (some ta) E.length Fa) ∧ w'.cell? ⟨m, 0, none⟩ = some (.slice ha R.length ia) ∧ w'.cell? ⟨m, 1, none⟩ = some (.int .i64 Y) ∧ w'.cell? ⟨m, 2, none⟩ = some (.int .i64 Z) ∧ w'.cell? ⟨m, 3, none⟩ = some (.string aa) ∧ w'.cell? (ta.add ((F).toNat * 2)) = some (.int .i64 ((rd_T80 E F).f0)) ∧ w'.cell? ⟨(ta.add ((F).toNat * 2)).block, (ta.add ((F).toNat * 2)).off + 1, none⟩ = some (.slice ub ((rd_T80 E F).f1).length vb)) ∧ (Kd.S k80 80 w' w.heap.size (fun k_ => k_ ≠ m ∧ k_ ≠ s_.2.2 ∧ T ≤ k_ ∧ k_ < y ∧ k_ < s_.2.1) (.slice Gb s.length qb) s) ∧ (Kd.S k29 29 w' w.heap.size (fun k_ => k_ ≠ m ∧ s_.2.1 ≤ k_) s_.1 db) ∧ (w'.heap[ca]? = some (.cells #[.int .i64 da, .int .i64 A, .slice (some ta) E.length Fa] 26 (0, 0))) ∧ (w'.heap[m]? = some (.cells #[.slice ha R.length ia, .int .i64 Y, .int .i64 Z, .string aa] 29 (0, 0))) ∧ (w'.heap[qa]? = some (.cells #[.int .i64 0, .int .i64 0, .slice none 0 0] 26 (0, 0))) ∧ (w'.heap[y]? = some (.cells #[.int .i64 fa, .int .i64 (wrap64 (A + 1)), .slice Gb s.length qb] 26 (0, 0))) ∧ (w'.heap[s_.2.2]? = some (.cells #[.int .i64 0, .slice none 0 0] 80 (0, 0))) ∧ (w.heap.size ≤ s_.2.2) ∧ (w.heap.size ≤ s_.2.2) ∧ (ca ≠ s_.2.2) ∧ (s_.2.2 ≠ ca) ∧ (m ≠ s_.2.2) ∧ (s_.2.2 ≠ m) ∧ (qa ≠ s_.2.2) ∧ (s_.2.2 ≠ qa) ∧ (y ≠ s_.2.2) ∧ (s_.2.2 ≠ y) ∧ (Below w.heap.size w w')) ?_ ?_
  rotate_left
  ·
   intro Ab
   refine two_ (i := 6) (j := 10) (Ni := some 33) (Nj := some 9) (b_ 7 6) (m_ 13 1087) rfl rfl rfl rfl (two_of ma.out (by kernel_rfl)) (by decide) (by decide) (fun K hK => ?_) (fun K hK => ?_)
   ·
    skip
    refine gs_ Tryz.func62 #[.agg #[.int .i64 ((rd_T80 E F).f0), .slice ub ((rd_T80 E F).f1).length vb], .agg #[.slice ha R.length ia, .int .i64 Y, .int .i64 Z, .string aa]] ?_
    with_reducible refine (spec_PutChain.calls k ((rd_T80 E F).f0) _ _ ((rd_T80 E F).f1) _ _ R Y Z aa lb db Qb _ ?side1 ?side2 ?side3 ?side4 A9.out).mono ?_
    (case side1 => exact cp_ ((Kd.C_below Hb.out J.out)))
    (case side2 => exact Zb.out)
    (case side3 => exact cp_ ((Kd.C_below Eb.out J.out)))
    (case side4 => exact Fb.out)
    rintro e Ig ⟨ac, rfl, kb, hb⟩
    refine ⟨_, rfl, ?_⟩
    obtain ⟨bb, Ib⟩ := Kd.S_name kb
    replace u := su_ Ib (sp_ u.out) hb
    have Ta := Aside0.mk (Kd.S_lower (Kd.S_newB (Kd.S_gez Ib kb) (pb_ a.out)) (below_size (hs_ J.out)))
    replace b := bk2_ b hb
    replace a := bk2_ a hb
    replace l := bk2_ l hb
    replace c := bk2_ c hb
    replace J := st_ J hb
    (try clear hb)
    (try clear hk)
    (try clear kb)
    refine ho_ hK ⟨bx_ b.out 0, bx_ b.out 1, bx_ b.out 2, bx_ a.out 0, bx_ a.out 1, bx_ a.out 2, bx_ a.out 3, ((J.out.cell (World.block_lt_of_cell? w _ ka)).trans ka), ((J.out.cell (World.block_lt_of_cell? w _ ja)).trans ja)⟩ (fun B => ?_)
    iterate 3 refine p_ ma ?_
    refine o1_ 10 (b_ 11 2) ma (fun K hK => ?_)
    refine bs1_ 9 #[.int .i64 0, .slice none 0 0] 80 ?_
    intro ua hg Jg Q hb
    replace u := se_ u hg hb
    replace Ta := sb_ Ta hb
    have la := Aside0.mk (Q)
    have nb := gq_ hg J
    have Tb := gq_ hg J
    replace J := st_ J hb
    have va := nk_ b hg
    have wa := Ne_.mk (ng_ b.out hg)
    replace b := bk2_ b hb
    have xa := nk_ a hg
    have ya := Ne_.mk (ng_ a.out hg)
    replace a := bk2_ a hb
    have za := nk_ l hg
    have Aa := Ne_.mk (ng_ l.out hg)
    replace l := bk2_ l hb
    have Ba := nk_ c hg
    have Ca := Ne_.mk (ng_ c.out hg)
    replace c := bk2_ c hb
    clear hb Q hg
    refine ho_ hK ⟨bx_ b.out 0, bx_ b.out 1, bx_ b.out 2, bx_ a.out 0, bx_ a.out 1, bx_ a.out 2, bx_ a.out 3, ((J.out.cell (World.block_lt_of_cell? w _ ka)).trans ka), ((J.out.cell (World.block_lt_of_cell? w _ ja)).trans ja)⟩ (fun B => ?_)
    exact norm_ (by simp only [putAll, fr_]) (Ab (ac, bb, ua) _ ⟨B, (Kd.S_mono (sp_ u.out) (fun _ hk => ⟨hk.1.1.1.2, ⟨hk.2, ⟨hk.1.1.1.1.2, ⟨hk.1.1.2, hk.1.2⟩⟩⟩⟩)), (Kd.S_mono (sp_ Ta.out) (fun _ hk => ⟨hk.2, hk.1.2⟩)), (pb_ b.out), (pb_ a.out), (pb_ l.out), (pb_ c.out), (pb_ la.out), nb.out, Tb.out, va.out, wa.out, xa.out, ya.out, za.out, Aa.out, Ba.out, Ca.out, (hs_ J.out)⟩)
   skip
   refine bs1_ 9 #[.int .i64 0, .slice none 0 0] 80 ?_
   intro ua hg Ig Q hb
   replace u := se_ u hg hb
   have la := Aside0.mk (Q)
   have nb := gq_ hg J
   have Tb := gq_ hg J
   replace J := st_ J hb
   have va := nk_ b hg
   have wa := Ne_.mk (ng_ b.out hg)
   replace b := bk2_ b hb
   have xa := nk_ a hg
   have ya := Ne_.mk (ng_ a.out hg)
   replace a := bk2_ a hb
   have za := nk_ l hg
   have Aa := Ne_.mk (ng_ l.out hg)
   replace l := bk2_ l hb
   have Ba := nk_ c hg
   have Ca := Ne_.mk (ng_ c.out hg)
   replace c := bk2_ c hb
   clear hb Q hg
   refine ho_ hK ⟨bx_ b.out 0, bx_ b.out 1, bx_ b.out 2, bx_ a.out 0, bx_ a.out 1, bx_ a.out 2, bx_ a.out 3, ((J.out.cell (World.block_lt_of_cell? w _ ka)).trans ka), ((J.out.cell (World.block_lt_of_cell? w _ ja)).trans ja)⟩ (fun B => ?_)
   refine o1_ 6 (m_ 13 1151) ma (fun K hK => ?_)
   refine gs_ Tryz.func62 #[.agg #[.int .i64 ((rd_T80 E F).f0), .slice ub ((rd_T80 E F).f1).length vb], .agg #[.slice ha R.length ia, .int .i64 Y, .int .i64 Z, .string aa]] ?_
   with_reducible refine (spec_PutChain.calls k ((rd_T80 E F).f0) _ _ ((rd_T80 E F).f1) _ _ R Y Z aa lb db Qb _ ?side1 ?side2 ?side3 ?side4 A9.out).mono ?_
   (case side1 => exact cp_ ((Kd.C_below Hb.out J.out)))
   (case side2 => exact Zb.out)
   (case side3 => exact cp_ ((Kd.C_below Eb.out J.out)))
   (case side4 => exact Fb.out)
   rintro e Jg ⟨ac, rfl, kb, hb⟩
   refine ⟨_, rfl, ?_⟩
   obtain ⟨bb, Ib⟩ := Kd.S_name kb
   replace u := su_ Ib (sp_ u.out) hb
   have Ta := Aside0.mk (Kd.S_lower (Kd.S_newB (Kd.S_gez Ib kb) (pb_ a.out)) (below_size (hs_ J.out)))
   replace b := bk2_ b hb
   replace a := bk2_ a hb
   replace l := bk2_ l hb
   replace c := bk2_ c hb
   replace la := bk2_ la hb
   replace J := st_ J hb
   (try clear hb)
   (try clear hk)
   (try clear kb)
   refine ho_ hK ⟨bx_ b.out 0, bx_ b.out 1, bx_ b.out 2, bx_ a.out 0, bx_ a.out 1, bx_ a.out 2, bx_ a.out 3, ((J.out.cell (World.block_lt_of_cell? w _ ka)).trans ka), ((J.out.cell (World.block_lt_of_cell? w _ ja)).trans ja)⟩ (fun B => ?_)
   refine qw_ 7 (m_ 13 1279) ma ?_
   refine qw_ 8 (m_ 13 1535) ma ?_
   refine qw_ 9 (b_ 11 2) ma ?_
   exact norm_ (by simp only [putAll, fr_]) (Ab (ac, bb, ua) _ ⟨B, (Kd.S_mono (sp_ u.out) (fun _ hk => ⟨hk.1.1.1.2, ⟨hk.1.2, ⟨hk.1.1.1.1.2, ⟨hk.1.1.2, hk.2⟩⟩⟩⟩)), (Kd.S_mono (sp_ Ta.out) (fun _ hk => ⟨hk.2, hk.1.2⟩)), (pb_ b.out), (pb_ a.out), (pb_ l.out), (pb_ c.out), (pb_ la.out), nb.out, Tb.out, va.out, wa.out, xa.out, ya.out, za.out, Aa.out, Ba.out, Ca.out, (hs_ J.out)⟩)
  rintro ⟨ac, bb, ua⟩ fb ⟨Xd, Rc, Sc, Tc, Uc, Vc, Wc, Xc, Yc, Zc, Jb, bc, cc, dc, ec, fc, gc, hc, ic⟩
  replace u : Aside0 (Kd.S k80 80 fb w.heap.size (fun k_ => k_ ≠ m ∧ k_ ≠ ua ∧ T ≤ k_ ∧ k_ < y ∧ k_ < bb) (.slice Gb s.length qb) s) := ⟨Rc⟩
  have Ta : Aside0 (Kd.S k29 29 fb w.heap.size (fun k_ => k_ ≠ m ∧ bb ≤ k_) ac db) := ⟨Sc⟩
  replace b : Aside0 (fb.heap[ca]? = some (.cells #[.int .i64 da, .int .i64 A, .slice (some ta) E.length Fa] 26 (0, 0))) := ⟨Tc⟩
  replace a : Aside0 (fb.heap[m]? = some (.cells #[.slice ha R.length ia, .int .i64 Y, .int .i64 Z, .string aa] 29 (0, 0))) := ⟨Uc⟩
  replace l : Aside0 (fb.heap[qa]? = some (.cells #[.int .i64 0, .int .i64 0, .slice none 0 0] 26 (0, 0))) := ⟨Vc⟩
  replace c : Aside0 (fb.heap[y]? = some (.cells #[.int .i64 fa, .int .i64 (wrap64 (A + 1)), .slice Gb s.length qb] 26 (0, 0))) := ⟨Wc⟩
  have la : Aside0 (fb.heap[ua]? = some (.cells #[.int .i64 0, .slice none 0 0] 80 (0, 0))) := ⟨Xc⟩
  have nb := Ge_.mk Yc
  have Tb := Ge_.mk Zc
  have va := Ne_.mk Jb
  have wa := Ne_.mk bc
  have xa := Ne_.mk cc
  have ya := Ne_.mk dc
  have za := Ne_.mk ec
  have Aa := Ne_.mk fc
  have Ba := Ne_.mk gc
  have Ca := Ne_.mk hc
  replace J : Aside0 (Below w.heap.size w fb) := ⟨ic⟩
  clear Rc Sc Tc Uc Vc Wc Xc Yc Zc Jb bc cc dc ec fc gc hc ic
  have B : fb.cell? ⟨ca, 0, none⟩ = some (.int .i64 da) ∧ fb.cell? ⟨ca, 1, none⟩ = some (.int .i64 A) ∧ fb.cell? ⟨ca, 2, none⟩ = some (.slice (some ta) E.length Fa) ∧ fb.cell? ⟨m, 0, none⟩ = some (.slice ha R.length ia) ∧ fb.cell? ⟨m, 1, none⟩ = some (.int .i64 Y) ∧ fb.cell? ⟨m, 2, none⟩ = some (.int .i64 Z) ∧ fb.cell? ⟨m, 3, none⟩ = some (.string aa) ∧ fb.cell? (ta.add ((F).toNat * 2)) = some (.int .i64 ((rd_T80 E F).f0)) ∧ fb.cell? ⟨(ta.add ((F).toNat * 2)).block, (ta.add ((F).toNat * 2)).off + 1, none⟩ = some (.slice ub ((rd_T80 E F).f1).length vb) := Xd
  obtain ⟨jc, kc, Gd⟩ := Kd.S_slice Ta.out
  (first | subst Gd | (obtain ⟨rfl, rfl⟩ := si_ Gd))
  refine nm_ ?_
  refine o1_ 11 (b_ 12 1) ma (fun K hK => ?_)
  have tj : fb.cell? ⟨ua, 0, none⟩ = some (.int .i64 0) := bx_ la.out 0
  have Kg := blk_frozen la.out 0
  have Ae := va.out
  have Be := xa.out
  have Ce := za.out
  have De := Ba.out
  have Ee := wa.out
  have Fe := ya.out
  have Ge := Aa.out
  have He := Ca.out
  have uj : fb.cell? ⟨ua, 1, none⟩ = some (.slice none 0 0) := bx_ la.out 1
  have Lg := blk_frozen la.out 1
  have Ie := va.out
  have Je := xa.out
  have Ke := za.out
  have Le := Ba.out
  have Me := wa.out
  have Ne := ya.out
  have Oe := Aa.out
  have Pe := Ca.out
  refine skip_ (w1 := ?_) (by rfl) rfl ?_ ?_
  rotate_left
  ·
   go_simp
   rfl
  refine hK.out _ _ ⟨(cg_ (B.1)), (cg_ (B.2.1)), (cg_ (B.2.2.1)), (cg_ (B.2.2.2.1)), (cg_ (B.2.2.2.2.1)), (cg_ (B.2.2.2.2.2.1)), (cg_ (B.2.2.2.2.2.2.1)), (ce_ ka nb.out ((ce_ ka nb.out (B.2.2.2.2.2.2.2.1)))), (ce_ ja nb.out ((ce_ ja nb.out (B.2.2.2.2.2.2.2.2))))⟩ (fun B => ?_)
  clear hK K
  refine p_ ma ?_
  refine done_ (done_of ma.out (by kernel_rfl)) ?_
  generalize hw_ : ((fb.setCell ⟨ua, 0, none⟩ (.int .i64 lb)).setCell ⟨ua, 1, none⟩ (.slice jc db.length kc)) = rb
  have ad : Aside0 (Kd.S k80 80 rb w.heap.size (fun k_ => k_ ≠ m ∧ k_ ≠ ua ∧ T ≤ k_ ∧ k_ < y ∧ k_ < bb) (.slice Gb s.length qb) s) := ⟨by rw [← hw_]; exact (Kd.S_mono (sf_ ua u.out (fun _ hk => hk.2.1)) (fun _ hk => ⟨hk.1, ⟨hk.2.1, ⟨hk.2.2.1, ⟨hk.2.2.2.1, hk.2.2.2.2⟩⟩⟩⟩))⟩
  have bd : Aside0 (Kd.S k29 29 rb w.heap.size (fun k_ => k_ ≠ m ∧ bb ≤ k_) (.slice jc db.length kc) db) := ⟨by rw [← hw_]; exact (Kd.S_mono (sy_ Ta.out la.out) (fun _ hk => ⟨hk.1, hk.2⟩))⟩
  have cd : Aside0 (rb.heap[ca]? = some (.cells #[.int .i64 da, .int .i64 A, .slice (some ta) E.length Fa] 26 (0, 0))) := ⟨by rw [← hw_]; exact (bq_ b.out)⟩
  have dd : Aside0 (rb.heap[m]? = some (.cells #[.slice ha R.length ia, .int .i64 Y, .int .i64 Z, .string aa] 29 (0, 0))) := ⟨by rw [← hw_]; exact (bq_ a.out)⟩
  have ed : Aside0 (rb.heap[qa]? = some (.cells #[.int .i64 0, .int .i64 0, .slice none 0 0] 26 (0, 0))) := ⟨by rw [← hw_]; exact (bq_ l.out)⟩
  have fd : Aside0 (rb.heap[y]? = some (.cells #[.int .i64 fa, .int .i64 (wrap64 (A + 1)), .slice Gb s.length qb] 26 (0, 0))) := ⟨by rw [← hw_]; exact (bq_ c.out)⟩
  have gd : Aside0 (rb.heap[ua]? = some (.cells #[.int .i64 lb, .slice jc db.length kc] 80 (0, 0))) := ⟨by rw [← hw_]; exact (bp_ la.out)⟩
  have jd : Aside0 (Below w.heap.size w rb) := ⟨by rw [← hw_]; exact (hs_ J.out)⟩
  clear hw_
  (try clear u)
  (try clear Ta)
  (try clear b)
  (try clear a)
  (try clear l)
  (try clear c)
  (try clear la)
  (try clear J)
  have u := ad
  have Ta := bd
  have b := cd
  have a := dd
  have l := ed
  have c := fd
  have la := gd
  have J := jd
  clear ad bd cd dd ed fd gd jd
  have Mg := Ba.out
  have Ng := Ca.out
  obtain ⟨Og, Pg, Qg, Rg, Sg, Tg⟩ := bc3_ c.out
  have Ug := wa.out
  have Vg := va.out
  have Wg := ya.out
  have Xg := xa.out
  have Yg := Aa.out
  have Zg := za.out
  obtain ⟨ah, bh, ch, dh⟩ := bc2_ la.out
  obtain ⟨Yd, Zd⟩ : 0 ≤ (F : Int) ∧ (F : Int) < ((s.length : Int) : Int) := pq_
  obtain ⟨go11, vj, Hd, Id, gl11, cl11, HG11⟩ := Kd.S_form u.out (by omega)
  (first | cases Hd | (injection Hd with ea_ en_ ec_; (first | subst ea_ | (injection ea_ with ea_; subst ea_)); subst ec_; clear en_))
  have GB11 := Aside0.mk Id
  have GG11 := Aside0.mk HG11
  clear Id gl11 HG11
  obtain ⟨_, wj, hcl11, hM11, vc, hfr11, _, _⟩ := Kd.S_elem u.out z80 (F : Int) Yd Zd
  obtain ⟨xd, rfl, af⟩ := k80_openM hM11
  have bf : rb.cell? ⟨go11, (F : Int).toNat * 2, none⟩ = some (.int .i64 ((rd_T80 s F).f0)) := vc 0 _ rfl
  have cf : rb.cell? ⟨go11, (F : Int).toNat * 2 + 1, none⟩ = some (xd) := vc 1 _ rfl
  have hf11_0 : rb.frozen? ⟨go11, (F : Int).toNat * 2, none⟩ = false := hfr11 0
  have hf11_1 : rb.frozen? ⟨go11, (F : Int).toNat * 2 + 1, none⟩ = false := hfr11 1
  clear hcl11 vc hfr11 hM11
  replace Yd := eq_true Yd; replace Zd := eq_true Zd
  obtain ⟨ae, yd, Db⟩ := Kd.S_fp (Kd.S_types (Kd.S_apart' (Ta.out) (Kd.S_typed u.out) (by decide)) la.out (by decide))
  have HX45 := Aside0.mk (show Kd.S k80 80 rb w.heap.size (fun k_ => ((fun k_ => k_ ≠ m ∧ k_ ≠ ua)) k_ ∧ ¬ ((fun k_ => ae k_)) k_) (.slice (some ⟨go11, 0, none⟩) s.length qb) s from (Kd.S_mono (sp_ u.out) (fun k_ hk => ⟨⟨hk.1, hk.2.1⟩, fun e_ => (fun ez_ => Nat.lt_irrefl _ (Nat.lt_of_lt_of_le hk.2.2.2.2 (Db _ ez_).1.1.1.2)) e_⟩)))
  obtain ⟨oki45, xj, hcl45, hM45, xc, hfr45, hoki45, hH45⟩ := Kd.S_elem HX45.out z80 (F : Int) (of_decide_eq_true (by with_reducible assumption)) (by have h_ : (F : Int) < ((s.length : Int) : Int) := of_decide_eq_true (by with_reducible assumption); first | exact h_ | (have e_ := (Kd.S_reads' u.out).1; omega) | simpa using h_)
  obtain ⟨df, rfl, ef⟩ := k80_openM hM45
  have HP45 := Kd.S_seg hH45 (of_decide_eq_true (by with_reducible assumption)) (by have h_ : (F : Int) < ((s.length : Int) : Int) := of_decide_eq_true (by with_reducible assumption); first | exact h_ | (have e_ := (Kd.S_reads' u.out).1; omega) | simpa using h_) (seg := [.int .i64 lb, .slice jc db.length kc]) (j := 0) (show 2 ≤ 2 from by decide) (x' := (⟨lb, db⟩ : S80)) (k80_mkM _ _ _ (⟨lb, db⟩ : S80) (Kd.S_mono yd (fun _ h_ => Or.inr (h_)))) (fun _ hk => hk) (fun k_ hk_ => ⟨⟨(Db k_ hk_).1.1.1.1, (Db k_ hk_).1.2⟩, fun e_ => ((Db k_ hk_).1.1.2) (by rw [e_]; rfl)⟩)
  have zd := xc 0 _ rfl
  (try simp only [show (k80).sz = 2 from rfl, Nat.mul_one, Nat.add_zero] at zd)
  have hf45_0 := hfr45 0
  (try simp only [show (k80).sz = 2 from rfl, Nat.mul_one, Nat.add_zero] at hf45_0)
  have Ad := xc 1 _ rfl
  (try simp only [show (k80).sz = 2 from rfl, Nat.mul_one, Nat.add_zero] at Ad)
  have hf45_1 := hfr45 1
  (try simp only [show (k80).sz = 2 from rfl, Nat.mul_one, Nat.add_zero] at hf45_1)
  clear hcl45 xc hfr45 hM45 hoki45 hH45
  try go_wp2_with (first | ((with_reducible refine gate_store (t := 80) (p := 40) rfl ?_); refine store_event (t := 80) (p := 40) (v := ?vo_w46) (w1 := ((rb.setCell ⟨go11, (F : Int).toNat * 2, none⟩ (.int .i64 lb)).setCell ⟨go11, (F : Int).toNat * 2 + 1, none⟩ (.slice jc db.length kc))) ?hg ?ho ?hn ?hr ?_; (case ho => rfl); (case hg => rfl); (case hn => rfl); (case hr => first | (go_simp; done) | (go_simp; rfl)); intro be hw; have hg : rb.grownBy be (some go11) := (by rw [hw]; exact HP45.2); have hp_ : Kd.S k80 80 be w.heap.size (fun k_ => k_ ≠ m ∧ k_ ≠ ua) (.slice (some ⟨go11, 0, none⟩) s.length qb) Fd := (by rw [hw, Sd.out]; exact HP45.1); clear HP45; replace b := Aside0.mk (blk_grown (bq_ b.out) hg (Kd.S_ne u.out b.out (by decide))); replace a := Aside0.mk (blk_grown (bq_ a.out) hg (Kd.S_ne u.out a.out (by decide))); replace l := Aside0.mk (blk_grown (bq_ l.out) hg (Kd.S_ne u.out l.out (by decide))); replace c := Aside0.mk (blk_grown (bq_ c.out) hg (Kd.S_ne u.out c.out (by decide))); replace la := Aside0.mk (blk_grown (bq_ la.out) hg (Kd.S_away u.out (fun _ hk => hk.2.1))); replace u := Aside0.mk (hp_); replace J := Aside0.mk ((by rw [hw]; exact below_set (below_set (J.out) GB11.out) GB11.out : Below w.heap.size w be)); clear Ta; clear hg hw hp_; obtain ⟨eh, fh, gh, hh, ih, jh⟩ := bc3_ c.out; obtain ⟨kh, lh, mh, nh, oh, ph⟩ := bc3_ l.out))
  refine bodyPost_ret (results_ct rfl _ _ qa 26 #[.int .i64 fa, .int .i64 (wrap64 (A + 1)), .slice (some ⟨go11, 0, none⟩) s.length qb] (0, 0) _ rfl (bp_ l.out) Tryz.underlying26 rfl (by kernel_rfl)) rfl ?_
  exact ⟨_, rr_, Kd.S_mono (sy_ u.out l.out) (fun _ hk => trivial), hs_ J.out⟩
 have we : decide (0 ≤ F) = false := decide_eq_false c6
 clear c6
 have H' := Aside0.mk H
 clear H
 go_enter Tryz.func9, Tryz.ntmps9
 go_wp2_with (first | ((with_reducible refine gd_ 2 rfl ?_); refine bv_ 2 #[.int .i64 da, .int .i64 A, .slice cb E.length Fa] 26 ?_; intro ca hg Lj Q hb; have b := Aside0.mk (Q); have qc := gq_ hg J; replace J := st_ J hb; have Td := Ge_.mk qc.out; clear hb Q hg) | ((with_reducible refine gd_ 3 rfl ?_); refine bv_ 3 #[.slice ha R.length ia, .int .i64 Y, .int .i64 Z, .string aa] 29 ?_; intro m hg Mj Q hb; have a := Aside0.mk (Q); have rc := gq_ hg J; replace J := st_ J hb; have Ud := Ge_.mk rc.out; obtain ⟨Ia, Ja, b⟩ := nb_ b hg hb; clear hb Q hg) | ((with_reducible refine gd_ 4 rfl ?_); refine bv_ 4 #[.int .i64 0, .int .i64 0, .slice none 0 0] 26 ?_; intro qa hg Oj Q hb; have l := Aside0.mk (Q); have sc := gq_ hg J; replace J := st_ J hb; have Vd := Ge_.mk sc.out; obtain ⟨Ka, La, b⟩ := nb_ b hg hb; obtain ⟨ib, jb, a⟩ := nb_ a hg hb; clear hb Q hg; have qh := Ia.out; have rh := Ja.out; have sh := Ka.out; have th := La.out; obtain ⟨uh, vh, wh, xh, yh, zh⟩ := bc3_ b.out) | ((with_reducible refine gate_callee (f := 59) rfl ?_); refine gl_ (some 13) Tryz.func59 #[.agg #[.int .i64 da, .int .i64 A, .slice cb E.length Fa]] ?_; (with_reducible refine (spec_l7Copy.calls k da A _ _ E fa Ed s _ ?side1 ?side2 A3.out).mono ?_); (case side1 => exact cp_ ((Kd.C_below zb.out J.out))); (case side2 => exact Sb.out); rintro e Pj ⟨xe, rfl, kb, hb⟩; refine ⟨_, rfl, ?_⟩; obtain ⟨T, tc⟩ := Kd.S_name kb; have u := Aside0.mk (Kd.S_lower (Kd.S_newB (Kd.S_gez tc kb) (pb_ a.out)) (below_size (hs_ J.out))); replace b := bk2_ b hb; replace a := bk2_ a hb; replace l := bk2_ l hb; replace J := st_ J hb; (try clear hb); (try clear hk); (try clear kb)) | ((with_reducible refine gd_ 6 rfl ?_); refine bv_ 6 #[.int .i64 0, .int .i64 0, .slice none 0 0] 26 ?_; intro y hg Qj Q hb; replace u := Aside0.mk (Kd.S_below (Kd.S_ltz hg (sp_ u.out)) hb); have c := Aside0.mk (Q); have uc := gq_ hg J; replace J := st_ J hb; have Wd := Ge_.mk uc.out; obtain ⟨ra, sa, b⟩ := nb_ b hg hb; obtain ⟨Va, Wa, a⟩ := nb_ a hg hb; obtain ⟨Xa, Ya, l⟩ := nb_ l hg hb; clear hb Q hg; have Ah := sa.out; have Bh := ra.out; have Ch := Wa.out; have Dh := Va.out; have Eh := Ya.out; have Fh := Xa.out; obtain ⟨Gh, Hh, Ih, Jh, Kh, Lh⟩ := bc3_ c.out; obtain ⟨L, O, Qe⟩ := Kd.S_slice u.out; subst Qe; obtain ⟨Mh, Nh, Oh, Ph, Qh, Rh⟩ := bc3_ b.out; have Sh := ib.out; have Th := jb.out; obtain ⟨Uh, Vh, Wh, Xh, Yh, Zh, ai, bi⟩ := bc4_ a.out) | ((with_reducible refine gate_callee (f := 60) rfl ?_); refine gl_ (some 20) Tryz.func60 #[.slice ha R.length ia] ?_; (with_reducible refine (spec_Finger.calls k _ _ R M _ ?side1 ?side2 A4.out).mono ?_); (case side1 => exact Kd.C_below Eb.out (hs_ J.out)); (case side2 => exact Fb.out); rintro e Rj ⟨rfl, hb⟩; refine ⟨_, rfl, ?_⟩; replace u := Aside0.mk (Kd.S_below (sy_ u.out c.out) hb); replace b := bk2_ b hb; replace a := bk2_ a hb; replace l := bk2_ l hb; replace c := by_ c #[.int .i64 fa, .int .i64 (wrap64 (A + 1)), .slice L s.length O] hb; replace J := st_ J hb; (try clear hb); (try clear hk); obtain ⟨ci, di, ei, fi, gi, hi⟩ := bc3_ b.out) | ((with_reducible refine gate_callee (f := 61) rfl ?_); refine gl_ (some 23) Tryz.func61 #[.agg #[.int .i64 da, .int .i64 A, .slice cb E.length Fa], .int .i64 M] ?_; (with_reducible refine (spec_l7At.calls k da A _ _ E M F _ ?side1 ?side2 A5.out).mono ?_); (case side1 => exact cp_ ((Kd.C_below zb.out J.out))); (case side2 => exact Sb.out); rintro e Sj ⟨rfl, hb⟩; refine ⟨_, rfl, ?_⟩; replace u := sb_ u hb; replace b := bk2_ b hb; replace a := bk2_ a hb; replace l := bk2_ l hb; replace c := bk2_ c hb; replace J := st_ J hb; (try clear hb); (try clear hk)))
 go_loopg [8] k (fun kq v8 w' => ∃ (W : Int), v8 = .int .i64 W ∧ Aside0 (spec_PutIn.l0 kq M W da A E R Y Z aa fa (wrap64 (A + 1)) s = some (r1, r2, r3, r4)) ∧ Aside0 (kq ≤ k) ∧ Aside0 (Kd.S k80 80 w' w.heap.size (fun k_ => k_ ≠ m ∧ T ≤ k_ ∧ k_ < y) (.slice L s.length O) s) ∧ Aside0 (w'.heap[ca]? = some (.cells #[.int .i64 da, .int .i64 A, (.slice cb E.length Fa)] 26 (0, 0))) ∧ Aside0 (w'.heap[m]? = some (.cells #[(.slice ha R.length ia), .int .i64 Y, .int .i64 Z, .string aa] 29 (0, 0))) ∧ Aside0 (w'.heap[qa]? = some (.cells #[.int .i64 0, .int .i64 0, (.slice none 0 0)] 26 (0, 0))) ∧ Aside0 (w'.heap[y]? = some (.cells #[.int .i64 fa, .int .i64 (wrap64 (A + 1)), (.slice L s.length O)] 26 (0, 0))) ∧ Aside0 (Below w.heap.size w w'))
 case atStart => exact ⟨(0), rs_, H', ⟨Nat.le_refl _⟩, ⟨Kd.S_mono (sp_ u.out) (fun _ hk => ⟨hk.1.2, ⟨hk.1.1.2, hk.2⟩⟩)⟩, ⟨bq_ b.out⟩, ⟨bq_ a.out⟩, ⟨bq_ l.out⟩, ⟨bq_ c.out⟩, ⟨hs_ J.out⟩⟩
 case round =>
  clear H'
  obtain ⟨W, rfl, HA, Bd, d, b, a, l, c, J⟩ := hrel
  cases gk with
  | zero => exact absurd HA.out (by simp [spec_PutIn.l0])
  | succ k1 =>
   have H := HA.out
   clear HA
   simp only [spec_PutIn.l0] at H
   have kd := Aside0.mk H
   clear H
   go_upto_region 10 with (fail)
   go_cut [57] (fun ii wc => ∃ (kq : Nat) (Ub : Bool), ii = .bool Ub ∧ Aside0 (spec_PutIn.j1 kq M W Ub da A E R Y Z aa fa (wrap64 (A + 1)) s = some (r1, r2, r3, r4)) ∧ Aside0 (kq ≤ k1) ∧ Aside0 (Kd.S k80 80 wc w.heap.size (fun k_ => k_ ≠ m ∧ T ≤ k_ ∧ k_ < y) (.slice L s.length O) s) ∧ Aside0 (wc.heap[ca]? = some (.cells #[.int .i64 da, .int .i64 A, (.slice cb E.length Fa)] 26 (0, 0))) ∧ Aside0 (wc.heap[m]? = some (.cells #[(.slice ha R.length ia), .int .i64 Y, .int .i64 Z, .string aa] 29 (0, 0))) ∧ Aside0 (wc.heap[qa]? = some (.cells #[.int .i64 0, .int .i64 0, (.slice none 0 0)] 26 (0, 0))) ∧ Aside0 (wc.heap[y]? = some (.cells #[.int .i64 fa, .int .i64 (wrap64 (A + 1)), (.slice L s.length O)] 26 (0, 0))) ∧ Aside0 (Below w.heap.size w wc))
   case first =>
    have H := kd.out
    clear kd
    replace H := ie_ H; rcases H with ⟨ld, H⟩ | ⟨ld, H⟩
    ·
     have Kb := decide_eq_true ld
     clear ld
     (first | rw [Kb] | (simp only [i64_w, i32_w]; rw [Kb]) | skip)
     replace H := id_ H; obtain ⟨ji, H⟩ := H
     have H' := Aside0.mk H
     clear H
     have ki := Ia.out
     have li := Ja.out
     have mi := Ka.out
     have ni := La.out
     have oi := ra.out
     have pi := sa.out
     obtain ⟨qi, ri, si, ti, ui, vi⟩ := bc3_ b.out
     obtain ⟨md, nd⟩ : 0 ≤ (W : Int) ∧ W < (E.length : Int) := pq_
     obtain ⟨wi, ff, gf, Re, wb, Lb, lc, mc⟩ := at_T80 zb.out W md nd
     cases Re
     replace wb := c2_ J wb Lb; clear Lb; obtain ⟨wb, Lb⟩ := wb
     have Se := Aside0.mk mc
     have Te := Aside0.mk lc
     clear mc lc
     replace md := eq_true md; replace nd := eq_true nd
     go_wp2
     go_meet
     case rel => exact ⟨_, (decide (((rd_T80 E W).f0) < M)), rs_, H', ⟨by have := Bd.out; first | omega | exact Nat.le_refl _⟩, ⟨sp_ d.out⟩, ⟨bq_ b.out⟩, ⟨bq_ a.out⟩, ⟨bq_ l.out⟩, ⟨bq_ c.out⟩, ⟨hs_ J.out⟩⟩
    have Kb : decide (W < (E.length : Int)) = false := decide_eq_false ld
    clear ld
    (first | rw [Kb] | (simp only [i64_w, i32_w]; rw [Kb]) | skip)
    have H' := Aside0.mk H
    clear H
    have xi := Ia.out
    have yi := Ja.out
    have zi := Ka.out
    have Ai := La.out
    have Bi := ra.out
    have Ci := sa.out
    obtain ⟨Di, Ei, Fi, Gi, Hi, Ii⟩ := bc3_ b.out
    go_wp2
    go_meet
    case rel => exact ⟨_, (false), rs_, H', ⟨by have := Bd.out; first | omega | exact Nat.le_refl _⟩, ⟨sp_ d.out⟩, ⟨bq_ b.out⟩, ⟨bq_ a.out⟩, ⟨bq_ l.out⟩, ⟨bq_ c.out⟩, ⟨hs_ J.out⟩⟩
   case rest =>
    clear kd
    obtain ⟨kq, Ub, rfl, HA, HJ68, d, b, a, l, c, J⟩ := hcut
    cases kq with
    | zero => exact absurd HA.out (by simp [spec_PutIn.j1])
    | succ Ue =>
     have H := HA.out
     clear HA
     simp only [spec_PutIn.j1] at H
     replace H := ib_ H; rcases H with ⟨rfl, H⟩ | ⟨rfl, H⟩
     ·
      have H' := Aside0.mk H
      clear H
      go_wp2
      go_roundg Ue
      case measure => have := Bd.out; have := HJ68.out; omega
      case rel => exact ⟨(wrap64 (W + 1)), rs_, H', ⟨by have := Bd.out; have := HJ68.out; omega⟩, ⟨sp_ d.out⟩, ⟨bq_ b.out⟩, ⟨bq_ a.out⟩, ⟨bq_ l.out⟩, ⟨bq_ c.out⟩, ⟨hs_ J.out⟩⟩
     replace H := bi_ H; obtain ⟨⟨Rb, nc, oc, pc⟩, Ji, H⟩ := H; (try dsimp only at H)
     obtain ⟨z, hy_⟩ : ∃ y_ : List (S29), y_ = (([(⟨Rb, nc, oc, pc⟩ : S29)] : List (S29))) := ⟨_, rfl⟩
     replace H : ((some (([] : List (S80)) : List (S80))).bind fun gb => (if 0 ≤ W then (if W ≤ (s.length : Int) then ((some (s.drop (W : Int).toNat : List (S80))).bind fun Ua => ((some (s.take (W : Int).toNat : List (S80))).bind fun ea => (if gb.length + ea.length < 4398046511104 then ((some (gb ++ ea : List (S80))).bind fun Ha => (if Ha.length < 4398046511104 then ((some (Ha ++ [(⟨M, z⟩ : S80)] : List (S80))).bind fun Ga => (if Ga.length + Ua.length < 4398046511104 then (some (fa, (wrap64 (A + 1)), (Ga ++ Ua), true)) else (none))) else (none))) else (none)))) else (none)) else (none))) = some (r1, r2, r3, r4) := hm_
     have de := Aside0.mk hy_; clear hy_
     obtain ⟨gb, hy_⟩ : ∃ y_ : List (S80), y_ = (([] : List (S80))) := ⟨_, rfl⟩
     replace H : (if 0 ≤ W then (if W ≤ (s.length : Int) then ((some (s.drop (W : Int).toNat : List (S80))).bind fun Ua => ((some (s.take (W : Int).toNat : List (S80))).bind fun ea => (if gb.length + ea.length < 4398046511104 then ((some (gb ++ ea : List (S80))).bind fun Ha => (if Ha.length < 4398046511104 then ((some (Ha ++ [(⟨M, z⟩ : S80)] : List (S80))).bind fun Ga => (if Ga.length + Ua.length < 4398046511104 then (some (fa, (wrap64 (A + 1)), (Ga ++ Ua), true)) else (none))) else (none))) else (none)))) else (none)) else (none)) = some (r1, r2, r3, r4) := hm_
     have Vb := Aside0.mk hy_; clear hy_
     replace H := in_ H; obtain ⟨ee, H⟩ := H
     have Ki := eq_true ee
     have Li := decide_eq_true ee
     clear ee
     replace H := in_ H; obtain ⟨fe, H⟩ := H
     have Mi := eq_true fe
     have Oi := decide_eq_true fe
     clear fe
     obtain ⟨Ua, hy_⟩ : ∃ y_ : List (S80), y_ = (s.drop (W : Int).toNat) := ⟨_, rfl⟩
     replace H : ((some (s.take (W : Int).toNat : List (S80))).bind fun ea => (if gb.length + ea.length < 4398046511104 then ((some (gb ++ ea : List (S80))).bind fun Ha => (if Ha.length < 4398046511104 then ((some (Ha ++ [(⟨M, z⟩ : S80)] : List (S80))).bind fun Ga => (if Ga.length + Ua.length < 4398046511104 then (some (fa, (wrap64 (A + 1)), (Ga ++ Ua), true)) else (none))) else (none))) else (none))) = some (r1, r2, r3, r4) := hm_
     have Wb := Aside0.mk hy_; clear hy_
     obtain ⟨ea, hy_⟩ : ∃ y_ : List (S80), y_ = (s.take (W : Int).toNat) := ⟨_, rfl⟩
     replace H : (if gb.length + ea.length < 4398046511104 then ((some (gb ++ ea : List (S80))).bind fun Ha => (if Ha.length < 4398046511104 then ((some (Ha ++ [(⟨M, z⟩ : S80)] : List (S80))).bind fun Ga => (if Ga.length + Ua.length < 4398046511104 then (some (fa, (wrap64 (A + 1)), (Ga ++ Ua), true)) else (none))) else (none))) else (none)) = some (r1, r2, r3, r4) := hm_
     have od := Aside0.mk hy_; clear hy_
     replace H := im_ H; obtain ⟨yc, H⟩ := H
     obtain ⟨Ha, hy_⟩ : ∃ y_ : List (S80), y_ = (gb ++ ea) := ⟨_, rfl⟩
     replace H : (if Ha.length < 4398046511104 then ((some (Ha ++ [(⟨M, z⟩ : S80)] : List (S80))).bind fun Ga => (if Ga.length + Ua.length < 4398046511104 then (some (fa, (wrap64 (A + 1)), (Ga ++ Ua), true)) else (none))) else (none)) = some (r1, r2, r3, r4) := hm_
     have zc := Aside0.mk hy_; clear hy_
     replace H := im_ H; obtain ⟨ge, H⟩ := H
     obtain ⟨Ga, hy_⟩ : ∃ y_ : List (S80), y_ = (Ha ++ [(⟨M, z⟩ : S80)]) := ⟨_, rfl⟩
     replace H : (if Ga.length + Ua.length < 4398046511104 then (some (fa, (wrap64 (A + 1)), (Ga ++ Ua), true)) else (none)) = some (r1, r2, r3, r4) := hm_
     have he := Aside0.mk hy_; clear hy_
     replace H := im_ H; obtain ⟨ie, H⟩ := H
     obtain ⟨pd, hy_⟩ : ∃ y_ : List (S80), y_ = (Ga ++ Ua) := ⟨_, rfl⟩
     replace H : (some (fa, (wrap64 (A + 1)), pd, true)) = some (r1, r2, r3, r4) := hm_
     have je := Aside0.mk hy_; clear hy_
     simp only [Option.some.injEq, Prod.mk.injEq] at H
     obtain ⟨rfl, rfl, rfl, rfl⟩ := H
     have Pi := Ja.out
     have Qi := Ia.out
     have Ri := ib.out
     have Si := jb.out
     have Ti := Va.out
     have Ui := Wa.out
     obtain ⟨Vi, Wi, Xi, Yi, Zi, aj, bj, cj⟩ := bc4_ a.out
     try go_wp2_with (first | ((with_reducible refine gate_callee (f := 63) rfl ?_); refine gl_ (some 62) Tryz.func63 #[.agg #[.slice ha R.length ia, .int .i64 Y, .int .i64 Z, .string aa]] ?_; (with_reducible refine (spec_l4Copy.calls _ _ R Y Z aa Rb nc oc pc _ ?side1 ?side2 Ji.out).mono ?_); (case side1 => exact cp_ ((Kd.C_below Eb.out J.out))); (case side2 => exact Fb.out); rintro e dj ⟨yj, rfl, kb, hb⟩; refine ⟨_, rfl, ?_⟩; obtain ⟨X, qd⟩ := Kd.R_name kb; replace d := su_ qd (sp_ d.out) hb; have Mb := rg_ qd kb J; replace b := bk2_ b hb; replace a := bk2_ a hb; replace l := bk2_ l hb; replace c := bk2_ c hb; replace J := st_ J hb; (try clear hb); (try clear hk); (try clear kb); obtain ⟨Jd, Ld, Ve⟩ := Kd.R_slice Mb.out; subst Ve) | ((with_reducible refine gd_ 63 rfl ?_); refine Kd.S_lit2 k29 w.heap.size 29 ?hg (N := 63) ?hd (x := (⟨Rb, nc, oc, pc⟩ : S29)) (cs := [.slice Jd Rb.length Ld, .int .i64 nc, .int .i64 oc, .string pc]) (ok := (fun k_ => k_ ≠ m)) (okp := (fun k_ => some k_ = (.slice Jd Rb.length Ld : Value).ownBlock)) (fun k_ => X ≤ k_) ?hr ?hp (fun k_ hk_ => (fun e_ => e_.1.2) ((Kd.R_types (Mb.out) a.out (by decide)).1 k_ hk_.symm)) (fun k_ hk_ => ((Kd.R_mono (ok' := (fun k_ => k_ ≠ m)) (Kd.R_types (Mb.out) a.out (by decide)) (fun k_ hk => hk.2))).1 k_ hk_.symm) ?hf ?aS ?_; (case hd => rfl); (case hg => rfl); (case hr => first | (go_simp; done) | (go_simp; rfl)); (case hp => exact (k29_mkM _ _ _ (⟨Rb, nc, oc, pc⟩ : S29) (Kd.R_mono (Kd.R_tight rfl (Kd.R_mono (ok' := (fun k_ => k_ ≠ m)) (Kd.R_types (Mb.out) a.out (by decide)) (fun k_ hk => hk.2))) (fun _ h_ => h_)))); (case hf => exact (show ∀ k_, dj.heap.size ≤ k_ → ((fun k_ => k_ ≠ m)) k_ from fun k_ hk => Kd.freshB (g := m) (o := .cells #[.slice ha R.length ia, .int .i64 Y, .int .i64 Z, .string aa] 29 (0, 0)) (pb_ a.out) k_ hk) _ (Nat.le_refl _)); (case aS => exact (below_size (hs_ J.out))); intro zj Vj rd hb hnew_; rw [← de.out] at rd; replace d := Aside0.mk (Kd.S_elder' (sp_ d.out) hnew_ hb); have D := Aside0.mk (rd); replace b := bk2_ b hb; replace a := bk2_ a hb; replace l := bk2_ l hb; replace c := bk2_ c hb; replace J := st_ J hb; clear Mb; clear hb hnew_ rd; obtain ⟨G, I, We⟩ := Kd.S_slice D.out; subst We) | ((with_reducible refine gd_ 11 rfl ?_); refine bv_ 11 #[.int .i64 0, .slice none 0 0] 80 ?_; intro r hg ej Q hb; replace d := Aside0.mk (Kd.S_below (Kd.S_ltz hg (Kd.S_elderB (sp_ d.out) r (Nat.le_of_eq hg.symm))) hb); replace D := Aside0.mk (Kd.S_below (Kd.S_ltz hg (sp_ D.out)) hb); have q := Aside0.mk (Q); have ke := gq_ hg J; replace J := st_ J hb; have fj := Ge_.mk ke.out; obtain ⟨Ac, Bc, b⟩ := nb_ b hg hb; obtain ⟨Cc, Dc, a⟩ := nb_ a hg hb; obtain ⟨Ec, Fc, l⟩ := nb_ l hg hb; obtain ⟨Nb, Ob, c⟩ := nb_ c hg hb; clear hb Q hg; have gj := Bc.out; have hj := Ac.out; have ij := Dc.out; have jj := Cc.out; have kj := Fc.out; have lj := Ec.out; have jf := Ob.out; have kf := Nb.out; obtain ⟨lf, mf, nf, pf⟩ := bc2_ q.out))
     generalize hw_ : ((ej.setCell ⟨r, 0, none⟩ (.int .i64 M)).setCell ⟨r, 1, none⟩ (.slice G z.length I)) = xb
     have ad : Aside0 (Kd.S k80 80 xb w.heap.size (fun k_ => some k_ ≠ (.slice G z.length I : Value).ownBlock ∧ k_ ≠ m ∧ T ≤ k_ ∧ k_ < y ∧ k_ < X ∧ k_ ≠ r ∧ k_ < r) (.slice L s.length O) s) := ⟨by rw [← hw_]; exact (Kd.S_mono (sf_ r d.out (fun _ hk => hk.1.2)) (fun _ hk => ⟨hk.1.1.2, ⟨hk.1.1.1.1.1, ⟨hk.1.1.1.1.2.1, ⟨hk.1.1.1.1.2.2, ⟨hk.1.1.1.2, ⟨hk.1.2, hk.2⟩⟩⟩⟩⟩⟩))⟩
     have bd : Aside0 (Kd.S k29 29 xb w.heap.size (fun k_ => k_ ≠ m ∧ (some k_ = (.slice G z.length I : Value).ownBlock ∨ X ≤ k_) ∧ k_ < r) (.slice G z.length I) z) := ⟨by rw [← hw_]; exact (Kd.S_mono (sy_ D.out q.out) (fun _ hk => ⟨hk.1.1, ⟨hk.1.2, hk.2⟩⟩))⟩
     have cd : Aside0 (xb.heap[ca]? = some (.cells #[.int .i64 da, .int .i64 A, .slice cb E.length Fa] 26 (0, 0))) := ⟨by rw [← hw_]; exact (bq_ b.out)⟩
     have dd : Aside0 (xb.heap[m]? = some (.cells #[.slice ha R.length ia, .int .i64 Y, .int .i64 Z, .string aa] 29 (0, 0))) := ⟨by rw [← hw_]; exact (bq_ a.out)⟩
     have ed : Aside0 (xb.heap[qa]? = some (.cells #[.int .i64 0, .int .i64 0, .slice none 0 0] 26 (0, 0))) := ⟨by rw [← hw_]; exact (bq_ l.out)⟩
     have fd : Aside0 (xb.heap[y]? = some (.cells #[.int .i64 fa, .int .i64 (wrap64 (A + 1)), .slice L s.length O] 26 (0, 0))) := ⟨by rw [← hw_]; exact (bq_ c.out)⟩
     have gd : Aside0 (xb.heap[r]? = some (.cells #[.int .i64 M, .slice G z.length I] 80 (0, 0))) := ⟨by rw [← hw_]; exact (bp_ q.out)⟩
     have jd : Aside0 (Below w.heap.size w xb) := ⟨by rw [← hw_]; exact (hs_ J.out)⟩
     clear hw_
     (try clear d)
     (try clear D)
     (try clear b)
     (try clear a)
     (try clear l)
     (try clear c)
     (try clear q)
     (try clear J)
     have d := ad
     have D := bd
     have b := cd
     have a := dd
     have l := ed
     have c := fd
     have q := gd
     have J := jd
     clear ad bd cd dd ed fd gd jd
     have qp103 : (W : Int) ≤ ((s.length : Int) : Int) := of_decide_eq_true (by with_reducible assumption)
     have Cd : (0 : Int) ≤ (W : Int) := of_decide_eq_true (by with_reducible assumption)
     have hlxp103 := (Kd.S_reads' d.out).1
     obtain ⟨i0p103, Pb, _, hszp103, _⟩ := info_parts info80
     have hcutp103 := cut_to (P := Tryz.prog) 24 80 .i64 Tryz.underlying24 Pb L s.length O W (of_decide_eq_true (by with_reducible assumption)) qp103 (Kd.S_reads' d.out).2.1
     have hcutbp103 := cut_from (P := Tryz.prog) 24 80 .i64 Tryz.underlying24 Pb 2 hszp103 L s.length O W Cd qp103
     have KLp103 := Aside0.mk (show (W : Int).toNat ≤ s.length from by omega)
     obtain ⟨GXp103, hsrp103, hspp103, hglp103⟩ := Kd.S_split d.out ((W : Int).toNat) KLp103.out
     have HGp103 := Aside0.mk (show ∀ k_, GXp103 k_ → k_ < r from fun k_ hk => (hglp103 k_ hk).2.2.2.2.2.2)
     have hyp103 : ea.length = (W : Int).toNat := (by rw [od.out, List.length_take]; omega)
     rw [← od.out] at hspp103
     rw [← hyp103] at hspp103 hcutp103
     obtain ⟨Ap103b, hAbp103⟩ : ∃ A1, A1 = (if O = (W : Int).toNat then L else (L : Option Addr).map (·.add ((W : Int).toNat * 2))) := ⟨_, rfl⟩
     obtain ⟨cp103b, hcbp103⟩ : ∃ c1, c1 = O - (W : Int).toNat := ⟨_, rfl⟩
     have hybp103 : Ua.length = s.length - (W : Int).toNat := (by rw [Wb.out, List.length_drop])
     rw [← hybp103, ← hAbp103, ← hcbp103] at hcutbp103
     have KAp103 := Aside0.mk hAbp103
     clear hcbp103 hAbp103 hybp103 hlxp103
     obtain ⟨GXp103P, hPPp103, hlPp103⟩ := Kd.S_fp hspp103
     have HGp103P := Aside0.mk (show ∀ k_, GXp103P k_ → k_ < r from fun k_ hk => (hlPp103 k_ hk).1.1.2.2.2.2.2.2)
     obtain ⟨GXp103u0, hPXp103u0, hPlp103u0⟩ := Kd.S_fp (D.out)
     have HGp103u0 := Aside0.mk (show ∀ k_, GXp103u0 k_ → k_ < r from fun k_ hk_ => (hPlp103u0 k_ hk_).1.2.2)
     have nup103u0 := Aside0.mk (Kd.S_mono hPXp103u0 (fun k_ hk_ => (⟨⟨(hPlp103u0 k_ hk_).1, hk_⟩, fun g_ => Or.elim (hPlp103u0 k_ hk_).1.2.1 (fun e3_ => (hglp103 k_ g_).1 e3_) (fun e3_ => Nat.lt_irrefl _ (Nat.lt_of_lt_of_le (hglp103 k_ g_).2.2.2.2.1 e3_))⟩ : (_ ∧ GXp103u0 k_) ∧ ¬ GXp103 k_)))
     have ga := Aside0.mk (Kd.S_mono (Kd.S_mono hPPp103 (fun k_ hk_ => (⟨(hlPp103 k_ hk_).1, hk_⟩ : _ ∧ GXp103P k_))) (fun k_ hk => (⟨hk, fun g_ => Or.elim (hPlp103u0 k_ g_).1.2.1 (fun e3_ => hk.1.1.1 e3_) (fun e3_ => Nat.lt_irrefl _ (Nat.lt_of_lt_of_le hk.1.1.2.2.2.2.1 e3_))⟩ : _ ∧ ¬ GXp103u0 k_)))
     clear d
     have d := Aside0.mk hsrp103
     clear D
     have D := nup103u0
     clear nup103u0 hPXp103u0 hPlp103u0 hsrp103 hspp103 hglp103 hPPp103 hlPp103 hyp103 Pb hszp103
     replace qp103 := eq_true qp103
     replace d := Aside0.mk (Kd.S_drew d.out)
     replace D := Aside0.mk (Kd.S_drew D.out)
     replace ga := Aside0.mk (Kd.S_drew ga.out)
     replace b := Aside0.mk (blk_drew b.out)
     replace a := Aside0.mk (blk_drew a.out)
     replace l := Aside0.mk (blk_drew l.out)
     replace c := Aside0.mk (blk_drew c.out)
     replace q := Aside0.mk (blk_drew q.out)
     replace J := Aside0.mk (bd_ J.out)
     refine start_ (n := 16) (S := fun w' => w'.cell? ⟨y, 0, none⟩ = some (.int .i64 fa) ∧ w'.cell? ⟨y, 1, none⟩ = some (.int .i64 (wrap64 (A + 1))) ∧ w'.cell? ⟨y, 2, none⟩ = some (.slice L s.length O) ∧ w'.cell? ⟨r, 0, none⟩ = some (.int .i64 M) ∧ w'.cell? ⟨r, 1, none⟩ = some (.slice G z.length I)) (ds := [15]) (b_ 0 16) (by kernel_rfl) rfl rfl ⟨bx_ c.out 0, bx_ c.out 1, bx_ c.out 2, bx_ q.out 0, bx_ q.out 1⟩ (fun B => ?_); refine with_tabW spec_PutIn.tab13 spec_PutIn.bits13 (fun ma Kc => ?_)
     generalize xb.drew = Aj at d D ga b a l c q J B ⊢
     refine qw_ 1 (m_ 16 2) ma ?_
     refine qw_ 3 (m_ 16 10) ma ?_
     refine qw_ 9 (m_ 16 522) ma ?_
     refine qw_ 11 (m_ 16 2570) ma ?_
     refine qt_ 2 (m_ 16 2574) ma Kc B ?_
     refine qw_ 4 (m_ 16 2590) ma ?_
     refine qt_ 6 (m_ 16 2654) ma Kc B ?_
     refine qt_ 10 (m_ 16 3678) ma Kc B ?_
     refine qw_ 12 (m_ 16 7774) ma ?_
     refine join_ (σ := Value × Value × Nat) 4 (m_ 16 7935) (fun s_ => [(65, s_.1), (70, s_.2.1), (72, .slice (some ⟨s_.2.2, 0, none⟩) 1 1)]) (fun s_ w' => (w'.cell? ⟨y, 0, none⟩ = some (.int .i64 fa) ∧ w'.cell? ⟨y, 1, none⟩ = some (.int .i64 (wrap64 (A + 1))) ∧ w'.cell? ⟨y, 2, none⟩ = some (.slice L s.length O) ∧ w'.cell? ⟨r, 0, none⟩ = some (.int .i64 M) ∧ w'.cell? ⟨r, 1, none⟩ = some (.slice G z.length I)) ∧ (Kd.S k29 29 w' w.heap.size (fun k_ => k_ ≠ m ∧ GXp103u0 k_ ∧ k_ < r ∧ ¬ GXp103 k_ ∧ (some k_ = (.slice G z.length I : Value).ownBlock ∨ X ≤ k_)) (.slice G z.length I) z) ∧ (Kd.S k80 80 w' w.heap.size (fun k_ => some k_ ≠ (.slice G z.length I : Value).ownBlock ∧ some k_ ≠ (.slice L s.length O : Value).ownBlock ∧ k_ ≠ m ∧ k_ ≠ r ∧ k_ ≠ s_.2.2 ∧ ¬ GXp103 k_ ∧ ¬ GXp103u0 k_) s_.2.1 Ha) ∧ (Kd.S (Kd.opt k80) 80 w' w.heap.size (fun k_ => some k_ ≠ (.slice G z.length I : Value).ownBlock ∧ some k_ ≠ (s_.2.1 : Value).ownBlock ∧ k_ ≠ m ∧ k_ ≠ r ∧ k_ ≠ s_.2.2 ∧ T ≤ k_ ∧ GXp103 k_ ∧ k_ < y ∧ k_ < r ∧ k_ < X) (.slice L s.length O) (Kd.gap ((W : Int).toNat) s)) ∧ (w'.heap[ca]? = some (.cells #[.int .i64 da, .int .i64 A, .slice cb E.length Fa] 26 (0, 0))) ∧ (w'.heap[m]? = some (.cells #[.slice ha R.length ia, .int .i64 Y, .int .i64 Z, .string aa] 29 (0, 0))) ∧ (w'.heap[qa]? = some (.cells #[.int .i64 0, .int .i64 0, .slice none 0 0] 26 (0, 0))) ∧ (w'.heap[y]? = some (.cells #[.int .i64 fa, .int .i64 (wrap64 (A + 1)), .slice L s.length O] 26 (0, 0))) ∧ (w'.heap[r]? = some (.cells #[.int .i64 M, .slice G z.length I] 80 (0, 0))) ∧ (w'.heap[s_.2.2]? = some (.cells #[.int .i64 M, .slice G z.length I] 80 (0, 0))) ∧ (w.heap.size ≤ s_.2.2) ∧ (w.heap.size ≤ s_.2.2) ∧ (ca ≠ s_.2.2) ∧ (s_.2.2 ≠ ca) ∧ (m ≠ s_.2.2) ∧ (s_.2.2 ≠ m) ∧ (qa ≠ s_.2.2) ∧ (s_.2.2 ≠ qa) ∧ (y ≠ s_.2.2) ∧ (s_.2.2 ≠ y) ∧ (r ≠ s_.2.2) ∧ (s_.2.2 ≠ r) ∧ (Below w.heap.size w w')) ?_ ?_
     rotate_left
     ·
      intro Ab
      refine two_ (i := 0) (j := 7) (Ni := some 65) (Nj := some 72) (m_ 16 7775) (m_ 16 7902) rfl rfl rfl rfl (two_of ma.out (by kernel_rfl)) (by decide) (by decide) (fun K hK => ?_) (fun K hK => ?_)
      ·
       skip
       refine Kd.S_lit_step k80 _ 80 ?hg (N := 65) ?hd (xs := ([] : List (S80))) (inner := []) (ok := fun _ => True) (okp := fun _ => True) ?hr ?hp (fun _ hk => hk) trivial (Below.refl _ _) (Nat.le_refl _) (by simp) ?_; (case hd => rfl); (case hg => rfl); (case hr => first | (go_simp; done) | (go_simp; rfl)); (case hp => exact (Reps.none _ _))
       intro Sa Xe sb hb hg_ hnew_
       clear hg_ hnew_
       (first | rw [← Vb.out] at sb | (simp only [Int.reduceToNat] at sb; rw [← Vb.out] at sb))
       have U := Aside0.mk (Kd.S_lower (Kd.S_newB (Kd.S_newB (Kd.S_new' (Kd.S_new' (Kd.S_new' (Kd.S_ngz HGp103P.out (blk_lt (pb_ q.out)) (Kd.S_ngz HGp103u0.out (blk_lt (pb_ q.out)) (Kd.S_ngz HGp103.out (blk_lt (pb_ q.out)) sb))) (Kd.S_lt (sp_ d.out))) (Kd.S_lt (sp_ D.out))) (Kd.S_lt (sp_ ga.out))) (pb_ a.out)) (pb_ q.out)) (below_size (hs_ J.out)))
       replace d := Aside0.mk (Kd.S_elder' (sp_ d.out) (Kd.S_base sb) hb)
       replace D := sb_ D hb
       replace ga := Aside0.mk (Kd.S_elder' (sp_ ga.out) (Kd.S_base sb) hb)
       replace b := bk2_ b hb
       replace a := bk2_ a hb
       replace l := bk2_ l hb
       replace c := bk2_ c hb
       replace q := bk2_ q hb
       replace J := st_ J hb
       clear hb sb
       refine ho_ hK (f3_ c.out (e2_ q.out)) (fun B => ?_)
       refine two_ (i := 5) (j := 7) (Ni := some 70) (Nj := some 72) (m_ 16 7807) (m_ 16 7903) rfl rfl rfl rfl (two_of ma.out (by kernel_rfl)) (by decide) (by decide) (fun K hK => ?_) (fun K hK => ?_)
       ·
        skip
        refine Kd.S_append_part_step k80 (w0 := w) w.heap.size (by rfl) (.tmp 65) (.tmp 69) 24 80 (.agg #[(.int .i64 0), (.slice none 0 0)]) 32 rfl Tryz.underlying24 info80 rfl (by decide) (by omega) Sa gb ea _ _ _ (fun k_ => some k_ ≠ (.slice L s.length O : Value).ownBlock ∧ some k_ ≠ (.slice G z.length I : Value).ownBlock ∧ k_ ≠ m ∧ k_ ≠ r ∧ ¬ GXp103 k_ ∧ ¬ GXp103u0 k_) (fun k_ => some k_ ≠ (.slice G z.length I : Value).ownBlock ∧ some k_ ≠ (Sa : Value).ownBlock ∧ k_ ≠ m ∧ T ≤ k_ ∧ k_ < y ∧ k_ < X ∧ k_ ≠ r ∧ k_ < r ∧ (¬ GXp103 k_ ∨ some k_ = (.slice L ea.length O : Value).ownBlock) ∧ GXp103P k_ ∧ ¬ GXp103u0 k_) rfl rfl ?aR (fun k_ hx_ ho_ => by have hz_ : ((((fun k_ => some k_ ≠ (.slice G z.length I : Value).ownBlock ∧ some k_ ≠ (Sa : Value).ownBlock ∧ k_ ≠ m ∧ T ≤ k_ ∧ k_ < y ∧ k_ < X ∧ k_ ≠ r ∧ k_ < r ∧ (¬ GXp103 k_ ∨ some k_ = (.slice L ea.length O : Value).ownBlock) ∧ GXp103P k_ ∧ ¬ GXp103u0 k_)) k_ ∧ ¬ GXp103 k_) ∧ some k_ ≠ (.slice L s.length O : Value).ownBlock) := ⟨⟨hx_, fun g_ => (hx_.2.2.2.2.2.2.2.2.1).elim (fun h_ => h_ g_) (fun h_ => ho_ h_)⟩, fun e_ => ho_ (e_.trans Kd.own_len)⟩; exact ⟨⟨hz_.2, ⟨hz_.1.1.1, ⟨hz_.1.1.2.2.1, ⟨hz_.1.1.2.2.2.2.2.2.1, ⟨hz_.1.2, hz_.1.1.2.2.2.2.2.2.2.2.2.2⟩⟩⟩⟩⟩, hz_.1.1.2.1⟩) ?aF ?aO ?aB ?aS ?aL ?_
        (case aR => exact (Kd.S_mono (ga.out) (fun k_ hk => ⟨hk.1.1.1.1.1, ⟨hk.2, ⟨hk.1.1.1.1.2.1, ⟨hk.1.1.1.1.2.2.1, ⟨hk.1.1.1.1.2.2.2.1, ⟨hk.1.1.1.1.2.2.2.2.1, ⟨hk.1.1.1.1.2.2.2.2.2.1, ⟨hk.1.1.1.1.2.2.2.2.2.2, ⟨hk.1.1.1.2, ⟨hk.1.1.2, hk.1.2⟩⟩⟩⟩⟩⟩⟩⟩⟩⟩)))
        (case aB => exact (hs_ J.out))
        (case aF => exact (fun k_ hk => ⟨Kd.fresh' (Kd.S_lt (sp_ d.out)) k_ hk, Kd.fresh' (Kd.S_lt (sp_ D.out)) k_ hk, Kd.freshB (g := m) (o := .cells #[.slice ha R.length ia, .int .i64 Y, .int .i64 Z, .string aa] 29 (0, 0)) (pb_ a.out) k_ hk, Kd.freshB (g := r) (o := .cells #[.int .i64 M, .slice G z.length I] 80 (0, 0)) (pb_ q.out) k_ hk, (fun g_ => Nat.lt_irrefl _ (Nat.lt_of_lt_of_le (Nat.lt_trans (HGp103.out k_ g_) (blk_lt (pb_ q.out))) hk)), (fun g_ => Nat.lt_irrefl _ (Nat.lt_of_lt_of_le (Nat.lt_trans (HGp103u0.out k_ g_) (blk_lt (pb_ q.out))) hk))⟩))
        (case aO => exact (Kd.S_mono (sp_ U.out) (fun k_ hk => ⟨⟨hk.1.1.1.1.2, ⟨hk.1.1.1.2, ⟨hk.1.2, ⟨hk.2, ⟨hk.1.1.1.1.1.1.1.2, hk.1.1.1.1.1.1.2⟩⟩⟩⟩⟩, fun e_ => (fun ez_ => hk.1.1.1.1.1.2 ((fun (k9_ : Nat) (Jb : ((fun k_ => some k_ ≠ (.slice G z.length I : Value).ownBlock ∧ some k_ ≠ (Sa : Value).ownBlock ∧ k_ ≠ m ∧ T ≤ k_ ∧ k_ < y ∧ k_ < X ∧ k_ ≠ r ∧ k_ < r ∧ (¬ GXp103 k_ ∨ some k_ = (.slice L ea.length O : Value).ownBlock) ∧ GXp103P k_ ∧ ¬ GXp103u0 k_)) k9_ ∧ some k9_ ≠ (.slice L ea.length O : Value).ownBlock) => (⟨Jb.1, trivial⟩ : _ ∧ True)) _ ez_).1.2.2.2.2.2.2.2.2.2.1) e_⟩)))
        (case aS => exact (below_size (hs_ J.out)))
        (case aL => have := yc.out; omega)
        intro yb Ye ho hb hg hat
        rw [← zc.out] at ho
        replace d := Aside0.mk (Kd.S_after (ok := (fun k_ => some k_ ≠ (.slice G z.length I : Value).ownBlock ∧ k_ ≠ m ∧ T ≤ k_ ∧ k_ < y ∧ k_ < X ∧ k_ ≠ r ∧ k_ < r ∧ GXp103 k_)) (Kd.S_mono (sp_ d.out) (fun _ hk => ⟨⟨hk.1.1.1, ⟨hk.1.1.2.1, ⟨hk.1.1.2.2.1, ⟨hk.1.1.2.2.2.1, ⟨hk.1.1.2.2.2.2.1, ⟨hk.1.1.2.2.2.2.2.1, ⟨hk.1.1.2.2.2.2.2.2, hk.1.2⟩⟩⟩⟩⟩⟩⟩, hk.2⟩)) hg hat)
        replace b := Aside0.mk (blk_grown (bq_ b.out) hg (Kd.S_ne U.out b.out (by decide)))
        replace a := Aside0.mk (blk_grown (bq_ a.out) hg (Kd.S_ne U.out a.out (by decide)))
        replace l := Aside0.mk (blk_grown (bq_ l.out) hg (Kd.S_ne U.out l.out (by decide)))
        replace c := Aside0.mk (blk_grown (bq_ c.out) hg (Kd.S_ne U.out c.out (by decide)))
        replace D := Aside0.mk (Kd.S_over' (sp_ D.out) (Kd.S_typed (sp_ U.out)) (by decide) hg)
        replace q := Aside0.mk (blk_grown (bq_ q.out) hg (Kd.S_away U.out (fun _ hk => hk.2)))
        replace J := Aside0.mk (hb)
        have na := Aside0.mk (ho)
        clear U ga
        clear ho hb hg hat
        refine ho_ hK (f3_ c.out (e2_ q.out)) (fun B => ?_)
        refine o1_ 7 (m_ 16 7935) ma (fun K hK => ?_)
        refine box_stepL ?hg (N := 72) ?hd (cs := #[.int .i64 M, .slice G z.length I]) (t := 80) ?hr ?_; (case hd => rfl); (case hg => rfl); (case hr => first | (go_simp; done) | (go_simp; rfl))
        intro V hg Md Q hb
        replace d := se_ d hg hb
        replace D := sb_ D hb
        replace na := se_ na hg hb
        have ba := Aside0.mk (Q)
        have Bb := gq_ hg J
        have Cb := gq_ hg J
        replace J := st_ J hb
        have Ma := nk_ b hg
        have Na := Ne_.mk (ng_ b.out hg)
        replace b := bk2_ b hb
        have Oa := nk_ a hg
        have Pa := Ne_.mk (ng_ a.out hg)
        replace a := bk2_ a hb
        have Da := nk_ l hg
        have Ea := Ne_.mk (ng_ l.out hg)
        replace l := bk2_ l hb
        have oa := nk_ c hg
        have pa := Ne_.mk (ng_ c.out hg)
        replace c := bk2_ c hb
        have Qa := nk_ q hg
        have Ra := Ne_.mk (ng_ q.out hg)
        replace q := bk2_ q hb
        clear hb Q hg
        refine ho_ hK (f3_ c.out (e2_ q.out)) (fun B => ?_)
        exact norm_ (by simp only [putAll, fr_]) (Ab (Sa, yb, V) _ ⟨B, (Kd.S_mono (sp_ D.out) (fun _ hk => ⟨hk.1.1.1, ⟨hk.1.2, ⟨hk.1.1.2.2, ⟨hk.2, hk.1.1.2.1⟩⟩⟩⟩)), (Kd.S_mono (sp_ na.out) (fun _ hk => ⟨hk.1.2.1, ⟨hk.1.1, ⟨hk.1.2.2.1, ⟨hk.1.2.2.2.1, ⟨hk.2, ⟨hk.1.2.2.2.2.1, hk.1.2.2.2.2.2⟩⟩⟩⟩⟩⟩)), (Kd.S_mono (sp_ d.out) (fun _ hk => ⟨hk.1.1.1, ⟨hk.1.2, ⟨hk.1.1.2.1, ⟨hk.1.1.2.2.2.2.2.1, ⟨hk.2, ⟨hk.1.1.2.2.1, ⟨hk.1.1.2.2.2.2.2.2.2, ⟨hk.1.1.2.2.2.1, ⟨hk.1.1.2.2.2.2.2.2.1, hk.1.1.2.2.2.2.1⟩⟩⟩⟩⟩⟩⟩⟩⟩)), (pb_ b.out), (pb_ a.out), (pb_ l.out), (pb_ c.out), (pb_ q.out), (pb_ ba.out), Bb.out, Cb.out, Ma.out, Na.out, Oa.out, Pa.out, Da.out, Ea.out, oa.out, pa.out, Qa.out, Ra.out, (hs_ J.out)⟩)
       skip
       refine box_stepL ?hg (N := 72) ?hd (cs := #[.int .i64 M, .slice G z.length I]) (t := 80) ?hr ?_; (case hd => rfl); (case hg => rfl); (case hr => first | (go_simp; done) | (go_simp; rfl))
       intro V hg Ye Q hb
       replace d := se_ d hg hb
       replace D := sb_ D hb
       replace ga := se_ ga hg hb
       replace U := se_ U hg hb
       have ba := Aside0.mk (Q)
       have Bb := gq_ hg J
       have Cb := gq_ hg J
       replace J := st_ J hb
       have Ma := nk_ b hg
       have Na := Ne_.mk (ng_ b.out hg)
       replace b := bk2_ b hb
       have Oa := nk_ a hg
       have Pa := Ne_.mk (ng_ a.out hg)
       replace a := bk2_ a hb
       have Da := nk_ l hg
       have Ea := Ne_.mk (ng_ l.out hg)
       replace l := bk2_ l hb
       have oa := nk_ c hg
       have pa := Ne_.mk (ng_ c.out hg)
       replace c := bk2_ c hb
       have Qa := nk_ q hg
       have Ra := Ne_.mk (ng_ q.out hg)
       replace q := bk2_ q hb
       clear hb Q hg
       refine ho_ hK (f3_ c.out (e2_ q.out)) (fun B => ?_)
       refine o1_ 5 (m_ 16 7935) ma (fun K hK => ?_)
       refine Kd.S_append_part_step k80 (w0 := w) w.heap.size (by rfl) (.tmp 65) (.tmp 69) 24 80 (.agg #[(.int .i64 0), (.slice none 0 0)]) 32 rfl Tryz.underlying24 info80 rfl (by decide) (by omega) Sa gb ea _ _ _ (fun k_ => some k_ ≠ (.slice L s.length O : Value).ownBlock ∧ some k_ ≠ (.slice G z.length I : Value).ownBlock ∧ k_ ≠ m ∧ k_ ≠ r ∧ k_ ≠ V ∧ ¬ GXp103 k_ ∧ ¬ GXp103u0 k_) (fun k_ => some k_ ≠ (.slice G z.length I : Value).ownBlock ∧ some k_ ≠ (Sa : Value).ownBlock ∧ k_ ≠ m ∧ T ≤ k_ ∧ k_ < y ∧ k_ < X ∧ k_ ≠ r ∧ k_ < r ∧ (¬ GXp103 k_ ∨ some k_ = (.slice L ea.length O : Value).ownBlock) ∧ GXp103P k_ ∧ ¬ GXp103u0 k_ ∧ k_ ≠ V) rfl rfl ?aR (fun k_ hx_ ho_ => by have hz_ : ((((fun k_ => some k_ ≠ (.slice G z.length I : Value).ownBlock ∧ some k_ ≠ (Sa : Value).ownBlock ∧ k_ ≠ m ∧ T ≤ k_ ∧ k_ < y ∧ k_ < X ∧ k_ ≠ r ∧ k_ < r ∧ (¬ GXp103 k_ ∨ some k_ = (.slice L ea.length O : Value).ownBlock) ∧ GXp103P k_ ∧ ¬ GXp103u0 k_ ∧ k_ ≠ V)) k_ ∧ ¬ GXp103 k_) ∧ some k_ ≠ (.slice L s.length O : Value).ownBlock) := ⟨⟨hx_, fun g_ => (hx_.2.2.2.2.2.2.2.2.1).elim (fun h_ => h_ g_) (fun h_ => ho_ h_)⟩, fun e_ => ho_ (e_.trans Kd.own_len)⟩; exact ⟨⟨hz_.2, ⟨hz_.1.1.1, ⟨hz_.1.1.2.2.1, ⟨hz_.1.1.2.2.2.2.2.2.1, ⟨hz_.1.1.2.2.2.2.2.2.2.2.2.2.2, ⟨hz_.1.2, hz_.1.1.2.2.2.2.2.2.2.2.2.2.1⟩⟩⟩⟩⟩⟩, hz_.1.1.2.1⟩) ?aF ?aO ?aB ?aS ?aL ?_
       (case aR => exact (Kd.S_mono (ga.out) (fun k_ hk => ⟨hk.1.1.1.1.1.1, ⟨hk.1.2, ⟨hk.1.1.1.1.1.2.1, ⟨hk.1.1.1.1.1.2.2.1, ⟨hk.1.1.1.1.1.2.2.2.1, ⟨hk.1.1.1.1.1.2.2.2.2.1, ⟨hk.1.1.1.1.1.2.2.2.2.2.1, ⟨hk.1.1.1.1.1.2.2.2.2.2.2, ⟨hk.1.1.1.1.2, ⟨hk.1.1.1.2, ⟨hk.1.1.2, hk.2⟩⟩⟩⟩⟩⟩⟩⟩⟩⟩⟩)))
       (case aB => exact (hs_ J.out))
       (case aF => exact (fun k_ hk => ⟨Kd.fresh' (Kd.S_lt (sp_ d.out)) k_ hk, Kd.fresh' (Kd.S_lt (sp_ D.out)) k_ hk, Kd.freshB (g := m) (o := .cells #[.slice ha R.length ia, .int .i64 Y, .int .i64 Z, .string aa] 29 (0, 0)) (pb_ a.out) k_ hk, Kd.freshB (g := r) (o := .cells #[.int .i64 M, .slice G z.length I] 80 (0, 0)) (pb_ q.out) k_ hk, Kd.freshB (g := V) (o := .cells #[.int .i64 M, .slice G z.length I] 80 (0, 0)) (pb_ ba.out) k_ hk, (fun g_ => Nat.lt_irrefl _ (Nat.lt_of_lt_of_le (Nat.lt_trans (HGp103.out k_ g_) (blk_lt (pb_ q.out))) hk)), (fun g_ => Nat.lt_irrefl _ (Nat.lt_of_lt_of_le (Nat.lt_trans (HGp103u0.out k_ g_) (blk_lt (pb_ q.out))) hk))⟩))
       (case aO => exact (Kd.S_mono (sp_ U.out) (fun k_ hk => ⟨⟨hk.1.1.1.1.1.2, ⟨hk.1.1.1.1.2, ⟨hk.1.1.2, ⟨hk.1.2, ⟨hk.2, ⟨hk.1.1.1.1.1.1.1.1.2, hk.1.1.1.1.1.1.1.2⟩⟩⟩⟩⟩⟩, fun e_ => (fun ez_ => hk.1.1.1.1.1.1.2 ((fun (k9_ : Nat) (Jb : ((fun k_ => some k_ ≠ (.slice G z.length I : Value).ownBlock ∧ some k_ ≠ (Sa : Value).ownBlock ∧ k_ ≠ m ∧ T ≤ k_ ∧ k_ < y ∧ k_ < X ∧ k_ ≠ r ∧ k_ < r ∧ (¬ GXp103 k_ ∨ some k_ = (.slice L ea.length O : Value).ownBlock) ∧ GXp103P k_ ∧ ¬ GXp103u0 k_ ∧ k_ ≠ V)) k9_ ∧ some k9_ ≠ (.slice L ea.length O : Value).ownBlock) => (⟨Jb.1, trivial⟩ : _ ∧ True)) _ ez_).1.2.2.2.2.2.2.2.2.2.1) e_⟩)))
       (case aS => exact (below_size (hs_ J.out)))
       (case aL => have := yc.out; omega)
       intro yb Md ho hb hg hat
       rw [← zc.out] at ho
       replace d := Aside0.mk (Kd.S_after (ok := (fun k_ => some k_ ≠ (.slice G z.length I : Value).ownBlock ∧ k_ ≠ m ∧ T ≤ k_ ∧ k_ < y ∧ k_ < X ∧ k_ ≠ r ∧ k_ < r ∧ GXp103 k_ ∧ k_ ≠ V)) (Kd.S_mono (sp_ d.out) (fun _ hk => ⟨⟨hk.1.1.1.1, ⟨hk.1.1.1.2.1, ⟨hk.1.1.1.2.2.1, ⟨hk.1.1.1.2.2.2.1, ⟨hk.1.1.1.2.2.2.2.1, ⟨hk.1.1.1.2.2.2.2.2.1, ⟨hk.1.1.1.2.2.2.2.2.2, ⟨hk.1.1.2, hk.2⟩⟩⟩⟩⟩⟩⟩⟩, hk.1.2⟩)) hg hat)
       replace b := Aside0.mk (blk_grown (bq_ b.out) hg (Kd.S_ne U.out b.out (by decide)))
       replace a := Aside0.mk (blk_grown (bq_ a.out) hg (Kd.S_ne U.out a.out (by decide)))
       replace l := Aside0.mk (blk_grown (bq_ l.out) hg (Kd.S_ne U.out l.out (by decide)))
       replace c := Aside0.mk (blk_grown (bq_ c.out) hg (Kd.S_ne U.out c.out (by decide)))
       replace D := Aside0.mk (Kd.S_over' (sp_ D.out) (Kd.S_typed (sp_ U.out)) (by decide) hg)
       replace q := Aside0.mk (blk_grown (bq_ q.out) hg (Kd.S_away U.out (fun _ hk => hk.1.2)))
       replace ba := Aside0.mk (blk_grown (bq_ ba.out) hg (Kd.S_away U.out (fun _ hk => hk.2)))
       replace J := Aside0.mk (hb)
       have na := Aside0.mk (ho)
       clear U ga
       clear ho hb hg hat
       refine ho_ hK (f3_ c.out (e2_ q.out)) (fun B => ?_)
       exact norm_ (by simp only [putAll, fr_]) (Ab (Sa, yb, V) _ ⟨B, (Kd.S_mono (sp_ D.out) (fun _ hk => ⟨hk.1.1.1, ⟨hk.1.2, ⟨hk.1.1.2.2, ⟨hk.2, hk.1.1.2.1⟩⟩⟩⟩)), (Kd.S_mono (sp_ na.out) (fun _ hk => ⟨hk.2.1, ⟨hk.1, ⟨hk.2.2.1, ⟨hk.2.2.2.1, ⟨hk.2.2.2.2.1, ⟨hk.2.2.2.2.2.1, hk.2.2.2.2.2.2⟩⟩⟩⟩⟩⟩)), (Kd.S_mono (sp_ d.out) (fun _ hk => ⟨hk.1.1, ⟨hk.2, ⟨hk.1.2.1, ⟨hk.1.2.2.2.2.2.1, ⟨hk.1.2.2.2.2.2.2.2.2, ⟨hk.1.2.2.1, ⟨hk.1.2.2.2.2.2.2.2.1, ⟨hk.1.2.2.2.1, ⟨hk.1.2.2.2.2.2.2.1, hk.1.2.2.2.2.1⟩⟩⟩⟩⟩⟩⟩⟩⟩)), (pb_ b.out), (pb_ a.out), (pb_ l.out), (pb_ c.out), (pb_ q.out), (pb_ ba.out), Bb.out, Cb.out, Ma.out, Na.out, Oa.out, Pa.out, Da.out, Ea.out, oa.out, pa.out, Qa.out, Ra.out, (hs_ J.out)⟩)
      skip
      refine box_stepL ?hg (N := 72) ?hd (cs := #[.int .i64 M, .slice G z.length I]) (t := 80) ?hr ?_; (case hd => rfl); (case hg => rfl); (case hr => first | (go_simp; done) | (go_simp; rfl))
      intro V hg Xe Q hb
      replace d := se_ d hg hb
      replace D := sb_ D hb
      replace ga := se_ ga hg hb
      have ba := Aside0.mk (Q)
      have Bb := gq_ hg J
      have Cb := gq_ hg J
      replace J := st_ J hb
      have Ma := nk_ b hg
      have Na := Ne_.mk (ng_ b.out hg)
      replace b := bk2_ b hb
      have Oa := nk_ a hg
      have Pa := Ne_.mk (ng_ a.out hg)
      replace a := bk2_ a hb
      have Da := nk_ l hg
      have Ea := Ne_.mk (ng_ l.out hg)
      replace l := bk2_ l hb
      have oa := nk_ c hg
      have pa := Ne_.mk (ng_ c.out hg)
      replace c := bk2_ c hb
      have Qa := nk_ q hg
      have Ra := Ne_.mk (ng_ q.out hg)
      replace q := bk2_ q hb
      clear hb Q hg
      refine ho_ hK (f3_ c.out (e2_ q.out)) (fun B => ?_)
      refine o1_ 0 (m_ 16 7903) ma (fun K hK => ?_)
      refine Kd.S_lit_step k80 _ 80 ?hg (N := 65) ?hd (xs := ([] : List (S80))) (inner := []) (ok := fun _ => True) (okp := fun _ => True) ?hr ?hp (fun _ hk => hk) trivial (Below.refl _ _) (Nat.le_refl _) (by simp) ?_; (case hd => rfl); (case hg => rfl); (case hr => first | (go_simp; done) | (go_simp; rfl)); (case hp => exact (Reps.none _ _))
      intro Sa Bj tb hb hg_ hnew_
      clear hg_ hnew_
      (first | rw [← Vb.out] at tb | (simp only [Int.reduceToNat] at tb; rw [← Vb.out] at tb))
      have U := Aside0.mk (Kd.S_lower (Kd.S_newB (Kd.S_newB (Kd.S_newB (Kd.S_new' (Kd.S_new' (Kd.S_new' (Kd.S_ngz HGp103P.out (blk_lt (pb_ q.out)) (Kd.S_ngz HGp103u0.out (blk_lt (pb_ q.out)) (Kd.S_ngz HGp103.out (blk_lt (pb_ q.out)) tb))) (Kd.S_lt (sp_ d.out))) (Kd.S_lt (sp_ D.out))) (Kd.S_lt (sp_ ga.out))) (pb_ a.out)) (pb_ q.out)) (pb_ ba.out)) (below_size (hs_ J.out)))
      replace d := Aside0.mk (Kd.S_elder' (sp_ d.out) (Kd.S_base tb) hb)
      replace D := sb_ D hb
      replace ga := Aside0.mk (Kd.S_elder' (sp_ ga.out) (Kd.S_base tb) hb)
      replace b := bk2_ b hb
      replace a := bk2_ a hb
      replace l := bk2_ l hb
      replace c := bk2_ c hb
      replace q := bk2_ q hb
      replace ba := bk2_ ba hb
      replace J := st_ J hb
      clear hb tb
      refine ho_ hK (f3_ c.out (e2_ q.out)) (fun B => ?_)
      refine o1_ 5 (m_ 16 7935) ma (fun K hK => ?_)
      refine Kd.S_append_part_step k80 (w0 := w) w.heap.size (by rfl) (.tmp 65) (.tmp 69) 24 80 (.agg #[(.int .i64 0), (.slice none 0 0)]) 32 rfl Tryz.underlying24 info80 rfl (by decide) (by omega) Sa gb ea _ _ _ (fun k_ => some k_ ≠ (.slice L s.length O : Value).ownBlock ∧ some k_ ≠ (.slice G z.length I : Value).ownBlock ∧ k_ ≠ m ∧ k_ ≠ r ∧ k_ ≠ V ∧ ¬ GXp103 k_ ∧ ¬ GXp103u0 k_) (fun k_ => some k_ ≠ (.slice G z.length I : Value).ownBlock ∧ some k_ ≠ (Sa : Value).ownBlock ∧ k_ ≠ m ∧ T ≤ k_ ∧ k_ < y ∧ k_ < X ∧ k_ ≠ r ∧ k_ < r ∧ (¬ GXp103 k_ ∨ some k_ = (.slice L ea.length O : Value).ownBlock) ∧ GXp103P k_ ∧ ¬ GXp103u0 k_ ∧ k_ ≠ V) rfl rfl ?aR (fun k_ hx_ ho_ => by have hz_ : ((((fun k_ => some k_ ≠ (.slice G z.length I : Value).ownBlock ∧ some k_ ≠ (Sa : Value).ownBlock ∧ k_ ≠ m ∧ T ≤ k_ ∧ k_ < y ∧ k_ < X ∧ k_ ≠ r ∧ k_ < r ∧ (¬ GXp103 k_ ∨ some k_ = (.slice L ea.length O : Value).ownBlock) ∧ GXp103P k_ ∧ ¬ GXp103u0 k_ ∧ k_ ≠ V)) k_ ∧ ¬ GXp103 k_) ∧ some k_ ≠ (.slice L s.length O : Value).ownBlock) := ⟨⟨hx_, fun g_ => (hx_.2.2.2.2.2.2.2.2.1).elim (fun h_ => h_ g_) (fun h_ => ho_ h_)⟩, fun e_ => ho_ (e_.trans Kd.own_len)⟩; exact ⟨⟨hz_.2, ⟨hz_.1.1.1, ⟨hz_.1.1.2.2.1, ⟨hz_.1.1.2.2.2.2.2.2.1, ⟨hz_.1.1.2.2.2.2.2.2.2.2.2.2.2, ⟨hz_.1.2, hz_.1.1.2.2.2.2.2.2.2.2.2.2.1⟩⟩⟩⟩⟩⟩, hz_.1.1.2.1⟩) ?aF ?aO ?aB ?aS ?aL ?_
      (case aR => exact (Kd.S_mono (ga.out) (fun k_ hk => ⟨hk.1.1.1.1.1.1, ⟨hk.2, ⟨hk.1.1.1.1.1.2.1, ⟨hk.1.1.1.1.1.2.2.1, ⟨hk.1.1.1.1.1.2.2.2.1, ⟨hk.1.1.1.1.1.2.2.2.2.1, ⟨hk.1.1.1.1.1.2.2.2.2.2.1, ⟨hk.1.1.1.1.1.2.2.2.2.2.2, ⟨hk.1.1.1.1.2, ⟨hk.1.1.1.2, ⟨hk.1.1.2, hk.1.2⟩⟩⟩⟩⟩⟩⟩⟩⟩⟩⟩)))
      (case aB => exact (hs_ J.out))
      (case aF => exact (fun k_ hk => ⟨Kd.fresh' (Kd.S_lt (sp_ d.out)) k_ hk, Kd.fresh' (Kd.S_lt (sp_ D.out)) k_ hk, Kd.freshB (g := m) (o := .cells #[.slice ha R.length ia, .int .i64 Y, .int .i64 Z, .string aa] 29 (0, 0)) (pb_ a.out) k_ hk, Kd.freshB (g := r) (o := .cells #[.int .i64 M, .slice G z.length I] 80 (0, 0)) (pb_ q.out) k_ hk, Kd.freshB (g := V) (o := .cells #[.int .i64 M, .slice G z.length I] 80 (0, 0)) (pb_ ba.out) k_ hk, (fun g_ => Nat.lt_irrefl _ (Nat.lt_of_lt_of_le (Nat.lt_trans (HGp103.out k_ g_) (blk_lt (pb_ q.out))) hk)), (fun g_ => Nat.lt_irrefl _ (Nat.lt_of_lt_of_le (Nat.lt_trans (HGp103u0.out k_ g_) (blk_lt (pb_ q.out))) hk))⟩))
      (case aO => exact (Kd.S_mono (sp_ U.out) (fun k_ hk => ⟨⟨hk.1.1.1.1.1.2, ⟨hk.1.1.1.1.2, ⟨hk.1.1.2, ⟨hk.1.2, ⟨hk.2, ⟨hk.1.1.1.1.1.1.1.1.2, hk.1.1.1.1.1.1.1.2⟩⟩⟩⟩⟩⟩, fun e_ => (fun ez_ => hk.1.1.1.1.1.1.2 ((fun (k9_ : Nat) (Jb : ((fun k_ => some k_ ≠ (.slice G z.length I : Value).ownBlock ∧ some k_ ≠ (Sa : Value).ownBlock ∧ k_ ≠ m ∧ T ≤ k_ ∧ k_ < y ∧ k_ < X ∧ k_ ≠ r ∧ k_ < r ∧ (¬ GXp103 k_ ∨ some k_ = (.slice L ea.length O : Value).ownBlock) ∧ GXp103P k_ ∧ ¬ GXp103u0 k_ ∧ k_ ≠ V)) k9_ ∧ some k9_ ≠ (.slice L ea.length O : Value).ownBlock) => (⟨Jb.1, trivial⟩ : _ ∧ True)) _ ez_).1.2.2.2.2.2.2.2.2.2.1) e_⟩)))
      (case aS => exact (below_size (hs_ J.out)))
      (case aL => have := yc.out; omega)
      intro yb Md ho hb hg hat
      rw [← zc.out] at ho
      replace d := Aside0.mk (Kd.S_after (ok := (fun k_ => some k_ ≠ (.slice G z.length I : Value).ownBlock ∧ k_ ≠ m ∧ T ≤ k_ ∧ k_ < y ∧ k_ < X ∧ k_ ≠ r ∧ k_ < r ∧ GXp103 k_ ∧ k_ ≠ V)) (Kd.S_mono (sp_ d.out) (fun _ hk => ⟨⟨hk.1.1.1.1, ⟨hk.1.1.1.2.1, ⟨hk.1.1.1.2.2.1, ⟨hk.1.1.1.2.2.2.1, ⟨hk.1.1.1.2.2.2.2.1, ⟨hk.1.1.1.2.2.2.2.2.1, ⟨hk.1.1.1.2.2.2.2.2.2, ⟨hk.1.1.2, hk.1.2⟩⟩⟩⟩⟩⟩⟩⟩, hk.2⟩)) hg hat)
      replace b := Aside0.mk (blk_grown (bq_ b.out) hg (Kd.S_ne U.out b.out (by decide)))
      replace a := Aside0.mk (blk_grown (bq_ a.out) hg (Kd.S_ne U.out a.out (by decide)))
      replace l := Aside0.mk (blk_grown (bq_ l.out) hg (Kd.S_ne U.out l.out (by decide)))
      replace c := Aside0.mk (blk_grown (bq_ c.out) hg (Kd.S_ne U.out c.out (by decide)))
      replace D := Aside0.mk (Kd.S_over' (sp_ D.out) (Kd.S_typed (sp_ U.out)) (by decide) hg)
      replace q := Aside0.mk (blk_grown (bq_ q.out) hg (Kd.S_away U.out (fun _ hk => hk.1.2)))
      replace ba := Aside0.mk (blk_grown (bq_ ba.out) hg (Kd.S_away U.out (fun _ hk => hk.2)))
      replace J := Aside0.mk (hb)
      have na := Aside0.mk (ho)
      clear U ga
      clear ho hb hg hat
      refine ho_ hK (f3_ c.out (e2_ q.out)) (fun B => ?_)
      exact norm_ (by simp only [putAll, fr_]) (Ab (Sa, yb, V) _ ⟨B, (Kd.S_mono (sp_ D.out) (fun _ hk => ⟨hk.1.1.1, ⟨hk.1.2, ⟨hk.1.1.2.2, ⟨hk.2, hk.1.1.2.1⟩⟩⟩⟩)), (Kd.S_mono (sp_ na.out) (fun _ hk => ⟨hk.2.1, ⟨hk.1, ⟨hk.2.2.1, ⟨hk.2.2.2.1, ⟨hk.2.2.2.2.1, ⟨hk.2.2.2.2.2.1, hk.2.2.2.2.2.2⟩⟩⟩⟩⟩⟩)), (Kd.S_mono (sp_ d.out) (fun _ hk => ⟨hk.1.1, ⟨hk.2, ⟨hk.1.2.1, ⟨hk.1.2.2.2.2.2.1, ⟨hk.1.2.2.2.2.2.2.2.2, ⟨hk.1.2.2.1, ⟨hk.1.2.2.2.2.2.2.2.1, ⟨hk.1.2.2.2.1, ⟨hk.1.2.2.2.2.2.2.1, hk.1.2.2.2.2.1⟩⟩⟩⟩⟩⟩⟩⟩⟩)), (pb_ b.out), (pb_ a.out), (pb_ l.out), (pb_ c.out), (pb_ q.out), (pb_ ba.out), Bb.out, Cb.out, Ma.out, Na.out, Oa.out, Pa.out, Da.out, Ea.out, oa.out, pa.out, Qa.out, Ra.out, (hs_ J.out)⟩)
     rintro ⟨Sa, yb, V⟩ Za ⟨Xd, Rc, Sc, Tc, Uc, Vc, Wc, Xc, Yc, Zc, Jb, bc, cc, dc, ec, fc, gc, hc, ic, Nd, Od, Pd, Qd⟩
     replace D : Aside0 (Kd.S k29 29 Za w.heap.size (fun k_ => k_ ≠ m ∧ GXp103u0 k_ ∧ k_ < r ∧ ¬ GXp103 k_ ∧ (some k_ = (.slice G z.length I : Value).ownBlock ∨ X ≤ k_)) (.slice G z.length I) z) := ⟨Rc⟩
     have na : Aside0 (Kd.S k80 80 Za w.heap.size (fun k_ => some k_ ≠ (.slice G z.length I : Value).ownBlock ∧ some k_ ≠ (.slice L s.length O : Value).ownBlock ∧ k_ ≠ m ∧ k_ ≠ r ∧ k_ ≠ V ∧ ¬ GXp103 k_ ∧ ¬ GXp103u0 k_) yb Ha) := ⟨Sc⟩
     replace d : Aside0 (Kd.S (Kd.opt k80) 80 Za w.heap.size (fun k_ => some k_ ≠ (.slice G z.length I : Value).ownBlock ∧ some k_ ≠ (yb : Value).ownBlock ∧ k_ ≠ m ∧ k_ ≠ r ∧ k_ ≠ V ∧ T ≤ k_ ∧ GXp103 k_ ∧ k_ < y ∧ k_ < r ∧ k_ < X) (.slice L s.length O) (Kd.gap ((W : Int).toNat) s)) := ⟨Tc⟩
     replace b : Aside0 (Za.heap[ca]? = some (.cells #[.int .i64 da, .int .i64 A, .slice cb E.length Fa] 26 (0, 0))) := ⟨Uc⟩
     replace a : Aside0 (Za.heap[m]? = some (.cells #[.slice ha R.length ia, .int .i64 Y, .int .i64 Z, .string aa] 29 (0, 0))) := ⟨Vc⟩
     replace l : Aside0 (Za.heap[qa]? = some (.cells #[.int .i64 0, .int .i64 0, .slice none 0 0] 26 (0, 0))) := ⟨Wc⟩
     replace c : Aside0 (Za.heap[y]? = some (.cells #[.int .i64 fa, .int .i64 (wrap64 (A + 1)), .slice L s.length O] 26 (0, 0))) := ⟨Xc⟩
     replace q : Aside0 (Za.heap[r]? = some (.cells #[.int .i64 M, .slice G z.length I] 80 (0, 0))) := ⟨Yc⟩
     have ba : Aside0 (Za.heap[V]? = some (.cells #[.int .i64 M, .slice G z.length I] 80 (0, 0))) := ⟨Zc⟩
     have Bb := Ge_.mk Jb
     have Cb := Ge_.mk bc
     have Ma := Ne_.mk cc
     have Na := Ne_.mk dc
     have Oa := Ne_.mk ec
     have Pa := Ne_.mk fc
     have Da := Ne_.mk gc
     have Ea := Ne_.mk hc
     have oa := Ne_.mk ic
     have pa := Ne_.mk Nd
     have Qa := Ne_.mk Od
     have Ra := Ne_.mk Pd
     replace J : Aside0 (Below w.heap.size w Za) := ⟨Qd⟩
     clear ga Rc Sc Tc Uc Vc Wc Xc Yc Zc Jb bc cc dc ec fc gc hc ic Nd Od Pd Qd
     have B : Za.cell? ⟨y, 0, none⟩ = some (.int .i64 fa) ∧ Za.cell? ⟨y, 1, none⟩ = some (.int .i64 (wrap64 (A + 1))) ∧ Za.cell? ⟨y, 2, none⟩ = some (.slice L s.length O) ∧ Za.cell? ⟨r, 0, none⟩ = some (.int .i64 M) ∧ Za.cell? ⟨r, 1, none⟩ = some (.slice G z.length I) := Xd
     obtain ⟨Dd, sd, ab⟩ := Kd.S_fp (Kd.S_types (Kd.S_types (Kd.S_apart' (Kd.S_apart' (D.out) (Kd.S_typed d.out) (by decide)) (Kd.S_typed na.out) (by decide)) q.out (by decide)) ba.out (by decide))
     refine nm_ ?_
     refine o1_ 8 (b_ 13 3) ma (fun K hK => ?_)
     refine Kd.S_append_box_step k80 (w0 := w) w.heap.size (by rfl) (.tmp 70) (.tmp 72) 24 80 (.agg #[(.int .i64 0), (.slice none 0 0)]) 32 rfl Tryz.underlying24 info80 rfl (by decide) (by omega) yb Ha (⟨M, z⟩ : S80) [.int .i64 M, .slice G z.length I] (fun k_ => some k_ ≠ (.slice L s.length O : Value).ownBlock ∧ k_ ≠ m ∧ k_ ≠ r ∧ k_ ≠ V ∧ ¬ GXp103 k_) (fun k_ => Dd k_) V (pb_ ba.out) rfl rfl ?aP (fun k_ hk_ => ⟨⟨(ab k_ hk_).1.1.1.1.2, ⟨(ab k_ hk_).1.1.1.1.1.1, ⟨(ab k_ hk_).1.1.2, ⟨(ab k_ hk_).1.2, (ab k_ hk_).1.1.1.1.1.2.2.2.1⟩⟩⟩⟩, (ab k_ hk_).1.1.1.2⟩) ?aF ?aO ?aB ?aS ?aL ?_
     (case aP => exact k80_mkM _ _ _ (⟨M, z⟩ : S80) (Kd.S_mono sd (fun _ h_ => h_)))
     (case aB => exact (hs_ J.out))
     (case aF => exact (fun k_ hk => ⟨Kd.fresh' (Kd.S_lt (sp_ d.out)) k_ hk, Kd.freshB (g := m) (o := .cells #[.slice ha R.length ia, .int .i64 Y, .int .i64 Z, .string aa] 29 (0, 0)) (pb_ a.out) k_ hk, Kd.freshB (g := r) (o := .cells #[.int .i64 M, .slice G z.length I] 80 (0, 0)) (pb_ q.out) k_ hk, Kd.freshB (g := V) (o := .cells #[.int .i64 M, .slice G z.length I] 80 (0, 0)) (pb_ ba.out) k_ hk, (fun g_ => Nat.lt_irrefl _ (Nat.lt_of_lt_of_le (Nat.lt_trans (HGp103.out k_ g_) (blk_lt (pb_ q.out))) hk))⟩))
     (case aO => exact (Kd.S_mono (sp_ na.out) (fun k_ hk => ⟨⟨hk.2.1, ⟨hk.2.2.1, ⟨hk.2.2.2.1, ⟨hk.2.2.2.2.1, hk.2.2.2.2.2.1⟩⟩⟩⟩, fun e_ => (fun ez_ => hk.2.2.2.2.2.2 (ab _ ez_).1.1.1.1.1.2.1) e_⟩)))
     (case aS => exact (below_size (hs_ J.out)))
     (case aL => have := ge.out; omega)
     intro Rd Cj ho hb hg hat
     rw [← he.out] at ho
     replace d := Aside0.mk (Kd.S_after (ok := (fun k_ => some k_ ≠ (.slice G z.length I : Value).ownBlock ∧ k_ ≠ m ∧ k_ ≠ r ∧ k_ ≠ V ∧ T ≤ k_ ∧ GXp103 k_ ∧ k_ < y ∧ k_ < r ∧ k_ < X)) (Kd.S_mono (sp_ d.out) (fun _ hk => ⟨⟨hk.1, ⟨hk.2.2.1, ⟨hk.2.2.2.1, ⟨hk.2.2.2.2.1, ⟨hk.2.2.2.2.2.1, ⟨hk.2.2.2.2.2.2.1, ⟨hk.2.2.2.2.2.2.2.1, ⟨hk.2.2.2.2.2.2.2.2.1, hk.2.2.2.2.2.2.2.2.2⟩⟩⟩⟩⟩⟩⟩⟩, hk.2.1⟩)) hg hat)
     replace b := Aside0.mk (blk_grown (bq_ b.out) hg (Kd.S_ne na.out b.out (by decide)))
     replace a := Aside0.mk (blk_grown (bq_ a.out) hg (Kd.S_ne na.out a.out (by decide)))
     replace l := Aside0.mk (blk_grown (bq_ l.out) hg (Kd.S_ne na.out l.out (by decide)))
     replace c := Aside0.mk (blk_grown (bq_ c.out) hg (Kd.S_ne na.out c.out (by decide)))
     replace q := Aside0.mk (blk_grown (bq_ q.out) hg (Kd.S_away na.out (fun _ hk => hk.2.2.2.1)))
     replace ba := Aside0.mk (blk_grown (bq_ ba.out) hg (Kd.S_away na.out (fun _ hk => hk.2.2.2.2.1)))
     replace J := Aside0.mk (hb)
     have ob := Aside0.mk (ho)
     clear na D
     clear ho hb hg hat
     refine ho_ hK (f3_ c.out (e2_ q.out)) (fun B => ?_)
     refine o1_ 13 (b_ 14 2) ma (fun K hK => ?_)
     refine Kd.S_append_rest_step k80 (w0 := w) w.heap.size (by rfl) (.tmp 73) (.tmp 77) 24 80 (.agg #[(.int .i64 0), (.slice none 0 0)]) 32 rfl Tryz.underlying24 info80 rfl (by decide) (by omega) Rd Ga s L s.length O ((W : Int).toNat) cp103b (fun k_ => k_ ≠ m ∧ k_ ≠ r ∧ k_ ≠ V) (fun k_ => some k_ ≠ (Rd : Value).ownBlock ∧ k_ ≠ m ∧ k_ ≠ r ∧ k_ ≠ V ∧ T ≤ k_ ∧ GXp103 k_ ∧ k_ < y ∧ k_ < r ∧ k_ < X) rfl KLp103.out (by rw [show (if O = (W : Int).toNat then L else (L : Option Addr).map (·.add ((W : Int).toNat * (k80).sz))) = Ap103b from KAp103.out.symm, ← Wb.out]; rfl) ?aR (fun k_ hk ho_ => ⟨⟨hk.2.1, ⟨hk.2.2.1, hk.2.2.2.1⟩⟩, hk.1⟩) ?aF ?aO ?aB ?aS ?aL ?_
     (case aR => exact (Kd.S_mono (d.out) (fun k_ hk => ⟨hk.2, ⟨hk.1.2.1, ⟨hk.1.2.2.1, ⟨hk.1.2.2.2.1, ⟨hk.1.2.2.2.2.1, ⟨hk.1.2.2.2.2.2.1, ⟨hk.1.2.2.2.2.2.2.1, ⟨hk.1.2.2.2.2.2.2.2.1, hk.1.2.2.2.2.2.2.2.2⟩⟩⟩⟩⟩⟩⟩⟩)))
     (case aB => exact (hs_ J.out))
     (case aF => exact (fun k_ hk => ⟨Kd.freshB (g := m) (o := .cells #[.slice ha R.length ia, .int .i64 Y, .int .i64 Z, .string aa] 29 (0, 0)) (pb_ a.out) k_ hk, Kd.freshB (g := r) (o := .cells #[.int .i64 M, .slice G z.length I] 80 (0, 0)) (pb_ q.out) k_ hk, Kd.freshB (g := V) (o := .cells #[.int .i64 M, .slice G z.length I] 80 (0, 0)) (pb_ ba.out) k_ hk⟩))
     (case aO => exact (Kd.S_mono (sp_ ob.out) (fun k_ hk => ⟨⟨hk.2.1, ⟨hk.2.2.1, hk.2.2.2.1⟩⟩, fun e_ => hk.2.2.2.2 e_.1.2.2.2.2.2.1⟩)))
     (case aS => exact (below_size (hs_ J.out)))
     (case aL => have := ie.out; rw [Wb.out] at this; omega)
     intro Dj Ze ho hb hg hat
     rw [← Wb.out] at ho
     rw [← je.out] at ho
     replace b := Aside0.mk (blk_grown (bq_ b.out) hg (Kd.S_ne ob.out b.out (by decide)))
     replace a := Aside0.mk (blk_grown (bq_ a.out) hg (Kd.S_ne ob.out a.out (by decide)))
     replace l := Aside0.mk (blk_grown (bq_ l.out) hg (Kd.S_ne ob.out l.out (by decide)))
     replace c := Aside0.mk (blk_grown (bq_ c.out) hg (Kd.S_ne ob.out c.out (by decide)))
     replace q := Aside0.mk (blk_grown (bq_ q.out) hg (Kd.S_away ob.out (fun _ hk => hk.2.2.1)))
     replace ba := Aside0.mk (blk_grown (bq_ ba.out) hg (Kd.S_away ob.out (fun _ hk => hk.2.2.2.1)))
     replace J := Aside0.mk (hb)
     have td := Aside0.mk (ho)
     clear ob d
     clear ho hb hg hat
     obtain ⟨ud, vd, wd⟩ := Kd.S_slice td.out
     (first | subst wd | (obtain ⟨rfl, rfl⟩ := si_ wd))
     refine ho_ hK (f3_ c.out (e2_ q.out)) (fun B => ?_)
     refine p_ ma ?_
     refine l1_ 15 (b_ 16 0) ma (fun K hK => ?_)
     have mj : Ze.cell? ⟨y, 2, none⟩ = some (.slice L s.length O) := bx_ c.out 2
     have qf := blk_frozen c.out 2
     have le := ra.out
     have me := Va.out
     have ne := Xa.out
     have oe := Ob.out
     have pe := pa.out
     have qe := sa.out
     have re := Wa.out
     have se := Ya.out
     have te := Nb.out
     have ue := oa.out
     refine skip_ (w1 := ?_) (by rfl) rfl ?_ ?_
     rotate_left
     ·
      go_simp
      rfl
     refine hK.out _ _ ?_
     clear hK K
     refine done_ (done_of ma.out (by kernel_rfl)) ?_
     have rf := sa.out
     have sf := ra.out
     have tf := Ya.out
     have uf := Xa.out
     have vf := oa.out
     have wf := pa.out
     obtain ⟨xf, yf, zf, Af, Bf, Cf⟩ := bc3_ c.out
     have Df := La.out
     have Ef := Ka.out
     have Ff := Da.out
     have Gf := Ea.out
     obtain ⟨Hf, If, Jf, Kf, Lf, Mf⟩ := bc3_ l.out
     try go_wp2
     refine bodyPost_ret (results_ct rfl _ _ qa 26 #[.int .i64 fa, .int .i64 (wrap64 (A + 1)), .slice ud pd.length vd] (0, 0) _ rfl (bp_ l.out) Tryz.underlying26 rfl (by kernel_rfl)) rfl ?_
     exact ⟨_, rr_, Kd.S_mono (sf_ qa (Kd.S_far (p := ⟨y, 2, none⟩) (Kd.S_types (Kd.S_types td.out c.out (by decide)) l.out (by decide)) (fun _ hk => hk.1.2) (.slice ud pd.length vd)) (fun _ hk => hk.2)) (fun _ hk => trivial), hs_ J.out⟩
def spec_PartOf.f (a0 : Int) (a1 : Int) : Option (Int) := if a1 < 1 then (some 0) else (if a0 < 0 then (some 0) else (if a1 = 0 then (none) else (some (Int.tmod a0 a1))))
theorem spec_PartOf.calls (b : Int) (a : Int) (r : Int) (w : World) (h : spec_PartOf.f b a = some r) :
  Calls Tryz.prog 77 #[.int .i64 b, .int .i64 a] w fun e w' => e = .returned (.int .i64 r) ∧ Drawn0 w w' := by
 have H : (if a < 1 then (some 0) else (if b < 0 then (some 0) else (if a = 0 then (none) else (some (Int.tmod b a))))) = some r := h
 clear h
 replace H := ie_ H; rcases H with ⟨c, H⟩ | ⟨c, H⟩
 ·
  have d := decide_eq_true c
  clear c
  obtain rfl := Option.some.inj H
  go_enter Tryz.func77, Tryz.ntmps77
  go_wp2
  go_ret
  exact ⟨by first | rfl | (simp; done) | (simp [*]; done), by repeat (first | exact Drawn0.refl _ | apply Drawn0.step)⟩
 have d : decide (a < 1) = false := decide_eq_false c
 clear c
 replace H := ie_ H; rcases H with ⟨g, H⟩ | ⟨g, H⟩
 ·
  have i := decide_eq_true g
  clear g
  obtain rfl := Option.some.inj H
  go_enter Tryz.func77, Tryz.ntmps77
  go_wp2
  go_ret
  exact ⟨by first | rfl | (simp; done) | (simp [*]; done), by repeat (first | exact Drawn0.refl _ | apply Drawn0.step)⟩
 have i : decide (b < 0) = false := decide_eq_false g
 clear g
 replace H := io_ H; obtain ⟨j, H⟩ := H
 have k : (a == 0) = false := beq_eq_false_iff_ne.mpr j
 have l : (a != 0) = true := bne_iff_ne.mpr j
 obtain rfl := Option.some.inj H
 go_enter Tryz.func77, Tryz.ntmps77
 go_wp2
 go_ret
 exact ⟨by first | rfl | (simp; done) | (simp [*]; done), by repeat (first | exact Drawn0.refl _ | apply Drawn0.step)⟩
def spec_HomeOf.f (k : Nat) (l0 : List (S26)) (l1 : List (S99)) : Option (Int) := (spec_Finger.f k l1).bind fun t1297 => ((spec_PartOf.f t1297 (l0.length : Int)).bind fun t1298 => (some t1298))
theorem spec_HomeOf.calls (k : Nat) (s : Option Addr) (t : Nat) (c : List (S26)) (m : Option Addr) (n : Nat) (d : List (S99)) (r : Int) (w : World) (g : Kd.C k26 w s c.length c) (i : c.length ≤ t) (j : Kd.C k99 w m d.length d) (l : d.length ≤ n) (h : spec_HomeOf.f k c d = some r) :
  Calls Tryz.prog 48 #[.slice s c.length t, .slice m d.length n] w fun e w' => e = .returned (.int .i64 r) ∧ Below w.heap.size w w' := by
 have u := Aside0.mk g
 have v := Aside0.mk i
 clear g i
 have o := Aside0.mk j
 have p := Aside0.mk l
 clear j l
 have q := Aside0.mk (Below.refl w.heap.size w)
 have H : ((spec_Finger.f k d).bind fun a => ((spec_PartOf.f a (c.length : Int)).bind fun b => (some b))) = some r := h
 clear h
 replace H := bi_ H; obtain ⟨a, x, H⟩ := H
 replace H := bi_ H; obtain ⟨b, y, H⟩ := H
 obtain rfl := Option.some.inj H
 go_enter Tryz.func48, Tryz.ntmps48
 go_wp2_with (first | ((with_reducible refine gate_callee (f := 60) rfl ?_); refine gl_ (some 6) Tryz.func60 #[.slice m d.length n] ?_; (with_reducible refine (spec_Finger.calls k _ _ d a _ ?side1 ?side2 x.out).mono ?_); (case side1 => exact cp_ (o.out)); (case side2 => exact p.out); rintro e z ⟨rfl, hb⟩; refine ⟨_, rfl, ?_⟩; replace q := st_ q hb; (try clear hb); (try clear hk)) | ((with_reducible refine gate_callee (f := 77) rfl ?_); refine gl_ (some 9) Tryz.func77 #[.int .i64 a, .int .i64 (c.length : Int)] ?_; (with_reducible refine (spec_PartOf.calls a (c.length : Int) b _ y.out).mono ?_); rintro e w' ⟨rfl, ⟨A, rfl⟩⟩; refine ⟨_, rfl, ?_⟩))
 go_ret
 exact an_ (hs_ q.out)
def spec_l8Copy.l0 : Nat → List (S26) → List (S26) → Int → Option ((List (S26)))
 | 0, _, _, _ => none
 | k + 1, x0, x3, x4 => if x4 < (x0.length : Int) then (if 0 ≤ x4 then ((spec_l7Copy.f k ((rd_T26 x0 x4).f0) ((rd_T26 x0 x4).f1) ((rd_T26 x0 x4).f2)).bind fun bt1303 => (if x3.length < 3518437208883 then (spec_l8Copy.l0 k x0 (x3 ++ [(⟨bt1303.1, bt1303.2.1, bt1303.2.2⟩ : S26)]) (wrap64 (x4 + 1))) else (none))) else (none)) else (some x3)
def spec_l8Copy.f (k : Nat) (l0 : List (S26)) : Option ((List (S26))) := spec_l8Copy.l0 k l0 (([] : List (S26))) 0
theorem spec_l8Copy.calls (k : Nat) (A0 : Option Addr) (c0 : Nat) (l0 : List (S26)) (r : List (S26)) (w : World) (ea : Kd.C k26 w A0 l0.length l0) (fa : l0.length ≤ c0) (h : spec_l8Copy.f k l0 = some r) :
  Calls Tryz.prog 87 #[.slice A0 l0.length c0] w fun e w' => ∃ v0_ : Value, e = .returned (v0_) ∧ Kd.S k26 26 w' w.heap.size (fun _ => True) v0_ r ∧ Below w.heap.size w w' := by
 have hu26 := Tryz.underlying26
 have oa := Aside0.mk ea
 have Ja := Aside0.mk fa
 clear ea fa
 have u := Aside0.mk (Below.refl w.heap.size w)
 have H : (spec_l8Copy.l0 k l0 (([] : List (S26))) 0) = some r := h
 clear h
 obtain ⟨O, hy_⟩ : ∃ y_ : List (S26), y_ = (([] : List (S26))) := ⟨_, rfl⟩
 replace H : (spec_l8Copy.l0 k l0 O 0) = some r := hm_
 have J := Aside0.mk hy_; clear hy_
 have H' := Aside0.mk H
 clear H
 go_enter Tryz.func87, Tryz.ntmps87
 go_wp2_with (first | ((with_reducible refine gd_ 6 rfl ?_); refine Kd.S_lit k26 _ 26 ?hg (N := 6) ?hd (xs := ([] : List (S26))) (inner := []) (ok := fun _ => True) (okp := fun _ => True) ?hr ?hp (fun _ hk => hk) trivial (Below.refl _ _) (Nat.le_refl _) (by simp) ?_; (case hd => rfl); (case hg => rfl); (case hr => first | (go_simp; done) | (go_simp; rfl)); (case hp => exact (Reps.none _ _)); intro pa w2 P hb hg_ hnew_; clear hg_ hnew_; (first | rw [← J.out] at P | (simp only [Int.reduceToNat] at P; rw [← J.out] at P)); have U := sw_ P u; have ga := st_ u hb; clear u; have u := ga; clear ga; clear hb P))
 go_loopg [3, 4] k (fun kq v3 v4 w' => ∃ (x : List (S26)) (c : Int), v4 = .int .i64 c ∧ Aside0 (spec_l8Copy.l0 kq l0 x c = some r) ∧ Aside0 (kq ≤ k) ∧ Aside0 (Kd.S k26 26 w' w.heap.size (fun _ => True) v3 x) ∧ Aside0 (Below w.heap.size w w'))
 case atStart => exact ⟨(O), (0), rs_, H', ⟨Nat.le_refl _⟩, ⟨sp_ U.out⟩, ⟨hs_ u.out⟩⟩
 case round =>
  clear H'
  obtain ⟨x, c, rfl, HA, ha, l, u⟩ := hrel
  cases gk with
  | zero => exact absurd HA.out (by simp [spec_l8Copy.l0])
  | succ k1 =>
   have H := HA.out
   clear HA
   simp only [spec_l8Copy.l0] at H
   replace H := ie_ H; rcases H with ⟨c4, H⟩ | ⟨c4, H⟩
   ·
    have ja := decide_eq_true c4
    clear c4
    replace H := id_ H; obtain ⟨Ia, H⟩ := H
    replace H := bi_ H; obtain ⟨⟨m, n, i⟩, A6, H⟩ := H; (try dsimp only at H)
    replace H := im_ H; obtain ⟨ka, H⟩ := H
    obtain ⟨Q, hy_⟩ : ∃ y_ : List (S26), y_ = (x ++ [(⟨m, n, i⟩ : S26)]) := ⟨_, rfl⟩
    replace H : (spec_l8Copy.l0 k1 l0 Q (wrap64 (c + 1))) = some r := hm_
    have V := Aside0.mk hy_; clear hy_
    have H' := Aside0.mk H
    clear H
    obtain ⟨G, I⟩ : 0 ≤ (c : Int) ∧ c < (l0.length : Int) := pq_
    obtain ⟨ma, R, T, ba, q, s, y, z, A⟩ := at_T26 oa.out c G I
    cases ba
    replace q := c2_ u q s; clear s; obtain ⟨q, s⟩ := q
    replace y := cl_ u.out y
    have L := Aside0.mk A
    have M := Aside0.mk z
    clear A z
    replace G := eq_true G; replace I := eq_true I
    go_wp2_with (first | ((with_reducible refine gate_callee (f := 59) rfl ?_); refine gl_ (some 17) Tryz.func59 #[.agg #[.int .i64 ((rd_T26 l0 c).f0), .int .i64 ((rd_T26 l0 c).f1), .slice R ((rd_T26 l0 c).f2).length T]] ?_; (with_reducible refine (spec_l7Copy.calls k1 ((rd_T26 l0 c).f0) ((rd_T26 l0 c).f1) _ _ ((rd_T26 l0 c).f2) m n i _ ?side1 ?side2 A6.out).mono ?_); (case side1 => exact cp_ ((Kd.C_below L.out u.out))); (case side2 => exact M.out); rintro e w8 ⟨sa, rfl, ca, hb⟩; refine ⟨_, rfl, ?_⟩; obtain ⟨D, K⟩ := Kd.S_name ca; replace l := su_ K (sp_ l.out) hb; have j := sg_ K ca u; replace u := st_ u hb; (try clear hb); (try clear hk); (try clear ca)) | ((with_reducible refine gd_ 5 rfl ?_); refine bv_ 5 #[.int .i64 0, .int .i64 0, .slice none 0 0] 26 ?_; intro d hg w9 aa hb; replace l := se_ l hg hb; replace j := sb_ j hb; have a := Aside0.mk (aa); have W := gq_ hg u; replace u := st_ u hb; have na := Ge_.mk W.out; clear hb aa hg; obtain ⟨ta, ua, va, wa, xa, ya⟩ := bc3_ a.out; obtain ⟨E, F, la⟩ := Kd.S_slice j.out; subst la) | ((with_reducible refine gate_store (t := 26) (p := 5) rfl ?_); refine store_event (t := 26) (p := 5) (v := ?vo_w12) (w1 := (((w9.setCell ⟨d, 0, none⟩ (.int .i64 m)).setCell ⟨d, 1, none⟩ (.int .i64 n)).setCell ⟨d, 2, none⟩ (.slice E i.length F))) ?hg ?ho ?hn ?hr ?_; (case ho => rfl); (case hg => rfl); (case hn => rfl); (case hr => first | (go_simp; done) | (go_simp; rfl)); intro X hw; replace l : Aside0 (Kd.S k26 26 X w.heap.size (fun k_ => k_ < D ∧ k_ ≠ d) u3 x) := ⟨(by rw [hw]; exact (Kd.S_mono (sf_ d l.out (fun _ hk => hk.2)) (fun _ hk => ⟨hk.1.2, hk.2⟩)))⟩; replace j : Aside0 (Kd.S k80 80 X w.heap.size (fun k_ => D ≤ k_) (.slice E i.length F) i) := ⟨(by rw [hw]; exact (Kd.S_mono (sy_ j.out a.out) (fun _ hk => hk.2)))⟩; replace a : Aside0 (X.heap[d]? = some (.cells #[.int .i64 m, .int .i64 n, .slice E i.length F] 26 (0, 0))) := ⟨(by rw [hw]; exact (bp_ a.out))⟩; replace u : Aside0 (Below w.heap.size w X) := ⟨(by rw [hw]; exact (hs_ u.out))⟩; clear hw; obtain ⟨za, Aa, Ba, Ca, Da, Ea⟩ := bc3_ a.out; obtain ⟨da, Y, B⟩ := Kd.S_fp (Kd.S_types (Kd.S_apart' (j.out) (Kd.S_typed l.out) (by decide)) a.out (by decide))) | ((with_reducible refine gate_builtin (b := .append) (xs := #[.tmp 18, .tmp 20]) rfl ?_); at_builtin; refine Kd.S_append k26 (w0 := w) w.heap.size rfl (.tmp 18) (.tmp 20) 54 26 (.agg #[(.int .i64 0), (.int .i64 0), (.slice none 0 0)]) 40 rfl Tryz.underlying54 info26 rfl (by decide) (by omega) u3 x (⟨m, n, i⟩ : S26) [.int .i64 m, .int .i64 n, .slice E i.length F] (fun k_ => k_ ≠ d) (fun k_ => da k_) rfl rfl ?aP (fun k_ hk_ => ⟨(B k_ hk_).1.2, (B k_ hk_).1.1.2⟩) ?aF ?aO ?aB ?aS ?aL ?_; (case aP => exact k26_mkM _ _ _ (⟨m, n, i⟩ : S26) (Kd.S_mono Y (fun _ h_ => h_))); (case aB => exact (hs_ u.out)); (case aF => exact (fun k_ hk => Kd.freshB (g := d) (o := .cells #[.int .i64 m, .int .i64 n, .slice E i.length F] 26 (0, 0)) (pb_ a.out) k_ hk)); (case aO => exact (Kd.S_mono (sp_ l.out) (fun k_ hk => ⟨hk.2, fun e_ => (fun ez_ => Nat.lt_irrefl _ (Nat.lt_of_lt_of_le hk.1 (B _ ez_).1.1.1)) e_⟩))); (case aS => exact (below_size (hs_ u.out))); (case aL => have := ka.out; omega); intro Fa Pa ho hb hg hat; rw [← V.out] at ho; replace a := Aside0.mk (blk_grown (bq_ a.out) hg (Kd.S_away l.out (fun _ hk => hk.2))); replace u := Aside0.mk (hb); have Z := Aside0.mk (ho); clear l j; clear ho hb hg hat))
    go_roundg k1
    case measure => have := ha.out; omega
    case rel => exact ⟨(Q), (wrap64 (c + 1)), rs_, H', ⟨by have := ha.out; omega⟩, ⟨Kd.S_mono (sp_ Z.out) (fun _ hk => trivial)⟩, ⟨hs_ u.out⟩⟩
   have ja : decide (c < (l0.length : Int)) = false := decide_eq_false c4
   clear c4
   obtain rfl := Option.some.inj H
   go_wp2
   go_ret
   exact ⟨_, rr_, sp_ l.out, hs_ u.out⟩
def spec_PutAlarm.f (k : Nat) (l0 : List (S26)) (l1_0 : List (S99)) (a1_1 : Int) (a1_2 : Int) (a1_3 : ByteArray) : Option ((List (S26)) × Bool) := (spec_l8Copy.f k l0).bind fun t1313 => (if (l0.length : Int) = 0 then (some (t1313, false)) else ((spec_HomeOf.f k l0 l1_0).bind fun t1316 => (if 0 ≤ t1316 then (if t1316 < (l0.length : Int) then ((spec_PutIn.f k ((rd_T26 l0 t1316).f0) ((rd_T26 l0 t1316).f1) ((rd_T26 l0 t1316).f2) l1_0 a1_1 a1_2 a1_3).bind fun bt1318 => (if t1316 < (t1313.length : Int) then (some ((t1313.set (t1316 : Int).toNat (⟨bt1318.1, bt1318.2.1, bt1318.2.2.1⟩ : S26)), bt1318.2.2.2)) else (none))) else (none)) else (none))))
def spec_PutAlarm.T5 : Bool × List (List Nat × List Nat) := (true, [([], []), ([], []), ([0, 1], [0, 1]), ([2], [2]), ([], []), ([3, 4], [3, 4]), ([5], [5]), ([6], [6]), ([6], [6]), ([], []), ([9, 7, 5, 0, 1, 2, 3, 4, 5, 6, 7, 9], [7, 9]), ([8, 10, 0, 1, 2, 3, 4, 5, 6, 7, 8, 9, 10], [8])])
def spec_PutAlarm.B5 : List Nat := [0, 0, 3, 7, 0, 31, 63, 127, 127, 0, 767, 2047]
theorem spec_PutAlarm.tab5 : rtab .any (opsOf Tryz.f37 5) = spec_PutAlarm.T5 := by kernel_rfl
theorem spec_PutAlarm.bits5 : waitsOk spec_PutAlarm.T5.2 spec_PutAlarm.B5 = true := by kernel_rfl
theorem spec_PutAlarm.calls (k : Nat) (A0 : Option Addr) (c0 : Nat) (O : List (S26)) (P : Option Addr) (Q : Nat) (B : List (S99)) (L : Int) (M : Int) (N : ByteArray) (r1 : List (S26)) (r2 : Bool) (w : World) (Wa : Kd.C k26 w A0 O.length O) (Xa : O.length ≤ c0) (wa : Kd.C k99 w P B.length B) (xa : B.length ≤ Q) (h : spec_PutAlarm.f k O B L M N = some (r1, r2)) :
  Calls Tryz.prog 37 #[.slice A0 O.length c0, .agg #[.slice P B.length Q, .int .i64 L, .int .i64 M, .string N]] w fun e w' => ∃ v0_ : Value, e = .returned (.tuple #[v0_, .bool r2]) ∧ Kd.S k26 26 w' w.heap.size (fun _ => True) v0_ r1 ∧ Below w.heap.size w w' := by
 have hu29 := Tryz.underlying29
 have hu26 := Tryz.underlying26
 have Ba := Aside0.mk Wa
 have Na := Aside0.mk Xa
 clear Wa Xa
 have sa := Aside0.mk wa
 have ta := Aside0.mk xa
 clear wa xa
 have A := Aside0.mk (Below.refl w.heap.size w)
 have H : ((spec_l8Copy.f k O).bind fun x => (if (O.length : Int) = 0 then (some (x, false)) else ((spec_HomeOf.f k O B).bind fun b => (if 0 ≤ b then (if b < (O.length : Int) then ((spec_PutIn.f k ((rd_T26 O b).f0) ((rd_T26 O b).f1) ((rd_T26 O b).f2) B L M N).bind fun bt1318 => (if b < (x.length : Int) then (some ((x.set (b : Int).toNat (⟨bt1318.1, bt1318.2.1, bt1318.2.2.1⟩ : S26)), bt1318.2.2.2)) else (none))) else (none)) else (none))))) = some (r1, r2) := h
 clear h
 replace H := bi_ H; obtain ⟨x, A3, H⟩ := H
 replace H := ie_ H; rcases H with ⟨c4, H⟩ | ⟨c4, H⟩
 ·
  have Ya : ((O.length : Int) == 0) = true := beq_iff_eq.mpr c4
  have Za : ((O.length : Int) != 0) = false := bne_eq_false_iff_eq.mpr c4
  clear c4
  simp only [Option.some.injEq, Prod.mk.injEq] at H
  obtain ⟨rfl, rfl⟩ := H
  go_enter Tryz.func37, Tryz.ntmps37
  go_wp2_with (first | ((with_reducible refine gd_ 3 rfl ?_); refine bv_ 3 #[.slice P B.length Q, .int .i64 L, .int .i64 M, .string N] 29 ?_; intro d hg w5 T hb; have a := Aside0.mk (T); have la := gq_ hg A; replace A := st_ A hb; have Ca := Ge_.mk la.out; clear hb T hg) | ((with_reducible refine gate_callee (f := 87) rfl ?_); refine gl_ (some 11) Tryz.func87 #[.slice A0 O.length c0] ?_; (with_reducible refine (spec_l8Copy.calls k _ _ O x _ ?side1 ?side2 A3.out).mono ?_); (case side1 => exact cp_ ((Kd.C_below Ba.out A.out))); (case side2 => exact Na.out); rintro e w6 ⟨ma, rfl, Y, hb⟩; refine ⟨_, rfl, ?_⟩; obtain ⟨Z, na⟩ := Kd.S_name Y; have c := Aside0.mk (Kd.S_lower (Kd.S_newB (Kd.S_gez na Y) (pb_ a.out)) (below_size (hs_ A.out))); replace a := bk2_ a hb; replace A := st_ A hb; (try clear hb); (try clear hk); (try clear Y)))
  go_ret2
  exact ⟨_, rr_, Kd.S_mono (sp_ c.out) (fun _ hk => trivial), hs_ A.out⟩
 have Ya : ((O.length : Int) == 0) = false := beq_eq_false_iff_ne.mpr c4
 have Za : ((O.length : Int) != 0) = true := bne_iff_ne.mpr c4
 have ec : ¬ (O = []) := fun h_ => c4 (by rw [h_]; rfl)
 replace H := bi_ H; obtain ⟨b, A7, H⟩ := H
 replace H := id_ H; obtain ⟨fc, H⟩ := H
 replace H := id_ H; obtain ⟨gc, H⟩ := H
 replace H := bi_ H; obtain ⟨⟨G, I, E, ca⟩, ab, H⟩ := H; (try dsimp only at H)
 replace H := id_ H; obtain ⟨Eb, H⟩ := H
 obtain ⟨ya, hy_⟩ : ∃ y_ : List (S26), y_ = (x.set (b : Int).toNat (⟨G, I, E⟩ : S26)) := ⟨_, rfl⟩
 replace H : (some (ya, ca)) = some (r1, r2) := hm_
 have Da := Aside0.mk hy_; clear hy_
 simp only [Option.some.injEq, Prod.mk.injEq] at H
 obtain ⟨rfl, rfl⟩ := H
 go_enter Tryz.func37, Tryz.ntmps37
 try go_wp2_with (first | ((with_reducible refine gd_ 3 rfl ?_); refine bv_ 3 #[.slice P B.length Q, .int .i64 L, .int .i64 M, .string N] 29 ?_; intro d hg nc T hb; have a := Aside0.mk (T); have la := gq_ hg A; replace A := st_ A hb; have Ca := Ge_.mk la.out; clear hb T hg) | ((with_reducible refine gate_callee (f := 87) rfl ?_); refine gl_ (some 11) Tryz.func87 #[.slice A0 O.length c0] ?_; (with_reducible refine (spec_l8Copy.calls k _ _ O x _ ?side1 ?side2 A3.out).mono ?_); (case side1 => exact cp_ ((Kd.C_below Ba.out A.out))); (case side2 => exact Na.out); rintro e oc ⟨ma, rfl, Y, hb⟩; refine ⟨_, rfl, ?_⟩; obtain ⟨Z, na⟩ := Kd.S_name Y; have c := Aside0.mk (Kd.S_lower (Kd.S_newB (Kd.S_gez na Y) (pb_ a.out)) (below_size (hs_ A.out))); replace a := bk2_ a hb; replace A := st_ A hb; (try clear hb); (try clear hk); (try clear Y); obtain ⟨Fb, Gb, Hb, Ib, Jb, Kb, Lb, Mb⟩ := bc4_ a.out) | ((with_reducible refine gate_callee (f := 48) rfl ?_); refine gl_ (some 19) Tryz.func48 #[.slice A0 O.length c0, .slice P B.length Q] ?_; (with_reducible refine (spec_HomeOf.calls k _ _ O _ _ B b _ ?side1 ?side2 ?side3 ?side4 A7.out).mono ?_); (case side1 => exact cp_ ((Kd.C_below Ba.out A.out))); (case side2 => exact Na.out); (case side3 => exact cp_ ((Kd.C_below sa.out A.out))); (case side4 => exact ta.out); rintro e Nb ⟨rfl, hb⟩; refine ⟨_, rfl, ?_⟩; replace c := sb_ c hb; replace a := bk2_ a hb; replace A := st_ A hb; (try clear hb); (try clear hk)))
 replace c := Aside0.mk (Kd.S_drew c.out)
 replace a := Aside0.mk (blk_drew a.out)
 replace A := Aside0.mk (bd_ A.out)
 obtain ⟨ua, va⟩ : 0 ≤ (b : Int) ∧ b < (O.length : Int) := pq_
 obtain ⟨u, U, V, Pa, J, R, W, ia, ja⟩ := at_T26 Ba.out b ua va
 have l := W
 have m := R
 have o := J
 cases Pa
 replace J := c2_ A J R; clear R; obtain ⟨J, R⟩ := J
 replace W := cl_ A.out W
 have da := Aside0.mk ja
 have ka := Aside0.mk ia
 clear ja ia
 replace ua := eq_true ua; replace va := eq_true va
 refine start_ (n := 12) (S := fun w' => w'.cell? ⟨d, 0, none⟩ = some (.slice P B.length Q) ∧ w'.cell? ⟨d, 1, none⟩ = some (.int .i64 L) ∧ w'.cell? ⟨d, 2, none⟩ = some (.int .i64 M) ∧ w'.cell? ⟨d, 3, none⟩ = some (.string N) ∧ w'.cell? (u.add ((b).toNat * 3)) = some (.int .i64 ((rd_T26 O b).f0)) ∧ w'.cell? ⟨(u.add ((b).toNat * 3)).block, (u.add ((b).toNat * 3)).off + 1, none⟩ = some (.int .i64 ((rd_T26 O b).f1)) ∧ w'.cell? ⟨(u.add ((b).toNat * 3)).block, (u.add ((b).toNat * 3)).off + 2, none⟩ = some (.slice U ((rd_T26 O b).f2).length V)) (ds := []) (b_ 0 12) (by kernel_rfl) rfl rfl ⟨bx_ a.out 0, bx_ a.out 1, bx_ a.out 2, bx_ a.out 3, ((A.out.cell (World.block_lt_of_cell? w _ o)).trans o), ((A.out.cell (World.block_lt_of_cell? w _ m)).trans m), ((A.out.cell (World.block_lt_of_cell? w _ l)).trans l)⟩ (fun y => ?_); refine with_tabW spec_PutAlarm.tab5 spec_PutAlarm.bits5 (fun ea Ob => ?_)
 generalize Nb.drew = pc at c a A da J R W y ⊢
 iterate 3 refine p_ ea ?_
 iterate 2 refine t0_ ea Ob y ?_
 refine join_ (σ := Value × Nat × Nat) 2 (b_ 10 2) (fun s_ => [(26, .tuple #[.agg #[.int .i64 G, .int .i64 I, s_.1], .bool ca]), (8, .pointer (some ⟨s_.2.2, 0, none⟩)), (20, .tuple #[.agg #[.int .i64 G, .int .i64 I, s_.1], .bool ca]), (27, .agg #[.int .i64 G, .int .i64 I, s_.1]), (28, .bool ca)]) (fun s_ w' => (w'.cell? ⟨d, 0, none⟩ = some (.slice P B.length Q) ∧ w'.cell? ⟨d, 1, none⟩ = some (.int .i64 L) ∧ w'.cell? ⟨d, 2, none⟩ = some (.int .i64 M) ∧ w'.cell? ⟨d, 3, none⟩ = some (.string N) ∧ w'.cell? (u.add ((b).toNat * 3)) = some (.int .i64 ((rd_T26 O b).f0)) ∧ w'.cell? ⟨(u.add ((b).toNat * 3)).block, (u.add ((b).toNat * 3)).off + 1, none⟩ = some (.int .i64 ((rd_T26 O b).f1)) ∧ w'.cell? ⟨(u.add ((b).toNat * 3)).block, (u.add ((b).toNat * 3)).off + 2, none⟩ = some (.slice U ((rd_T26 O b).f2).length V)) ∧ (Kd.S k26 26 w' w.heap.size (fun k_ => k_ ≠ d ∧ k_ ≠ s_.2.2 ∧ Z ≤ k_ ∧ k_ < s_.2.1) ma x) ∧ (Kd.S k80 80 w' w.heap.size (fun k_ => k_ ≠ d ∧ s_.2.1 ≤ k_) s_.1 E) ∧ (w'.heap[d]? = some (.cells #[.slice P B.length Q, .int .i64 L, .int .i64 M, .string N] 29 (0, 0))) ∧ (w'.heap[s_.2.2]? = some (.cells #[.int .i64 0, .int .i64 0, .slice none 0 0] 26 (0, 0))) ∧ (w.heap.size ≤ s_.2.2) ∧ (w.heap.size ≤ s_.2.2) ∧ (d ≠ s_.2.2) ∧ (s_.2.2 ≠ d) ∧ (Below w.heap.size w w')) ?_ ?_
 rotate_left
 ·
  intro za
  refine two_ (i := 5) (j := 9) (Ni := some 26) (Nj := some 8) (b_ 6 6) (m_ 12 543) rfl rfl rfl rfl (two_of ea.out (by kernel_rfl)) (by decide) (by decide) (fun K hK => ?_) (fun K hK => ?_)
  ·
   skip
   refine gs_ Tryz.func9 #[.agg #[.int .i64 ((rd_T26 O b).f0), .int .i64 ((rd_T26 O b).f1), .slice U ((rd_T26 O b).f2).length V], .agg #[.slice P B.length Q, .int .i64 L, .int .i64 M, .string N]] ?_
   with_reducible refine (spec_PutIn.calls k ((rd_T26 O b).f0) ((rd_T26 O b).f1) _ _ ((rd_T26 O b).f2) _ _ B L M N G I E ca _ ?side1 ?side2 ?side3 ?side4 ab.out).mono ?_
   (case side1 => exact cp_ ((Kd.C_below da.out A.out)))
   (case side2 => exact ka.out)
   (case side3 => exact cp_ ((Kd.C_below sa.out A.out)))
   (case side4 => exact ta.out)
   rintro e Pb ⟨ha, rfl, Y, hb⟩
   refine ⟨_, rfl, ?_⟩
   obtain ⟨F, aa⟩ := Kd.S_name Y
   replace c := su_ aa (sp_ c.out) hb
   have D := Aside0.mk (Kd.S_lower (Kd.S_newB (Kd.S_gez aa Y) (pb_ a.out)) (below_size (hs_ A.out)))
   replace a := bk2_ a hb
   replace A := st_ A hb
   (try clear hb)
   (try clear hk)
   (try clear Y)
   refine ho_ hK ⟨bx_ a.out 0, bx_ a.out 1, bx_ a.out 2, bx_ a.out 3, ((A.out.cell (World.block_lt_of_cell? w _ o)).trans o), ((A.out.cell (World.block_lt_of_cell? w _ m)).trans m), ((A.out.cell (World.block_lt_of_cell? w _ l)).trans l)⟩ (fun y => ?_)
   iterate 3 refine p_ ea ?_
   refine o1_ 9 (b_ 10 2) ea (fun K hK => ?_)
   refine bs1_ 8 #[.int .i64 0, .int .i64 0, .slice none 0 0] 26 ?_
   intro q hg Qb T hb
   replace c := se_ c hg hb
   replace D := sb_ D hb
   have g := Aside0.mk (T)
   have z := gq_ hg A
   have fa := gq_ hg A
   replace A := st_ A hb
   have r := nk_ a hg
   have s := Ne_.mk (ng_ a.out hg)
   replace a := bk2_ a hb
   clear hb T hg
   refine ho_ hK ⟨bx_ a.out 0, bx_ a.out 1, bx_ a.out 2, bx_ a.out 3, ((A.out.cell (World.block_lt_of_cell? w _ o)).trans o), ((A.out.cell (World.block_lt_of_cell? w _ m)).trans m), ((A.out.cell (World.block_lt_of_cell? w _ l)).trans l)⟩ (fun y => ?_)
   exact norm_ (by simp only [putAll, fr_]) (za (ha, F, q) _ ⟨y, (Kd.S_mono (sp_ c.out) (fun _ hk => ⟨hk.1.1.2, ⟨hk.2, ⟨hk.1.1.1.2, hk.1.2⟩⟩⟩)), (Kd.S_mono (sp_ D.out) (fun _ hk => ⟨hk.2, hk.1.2⟩)), (pb_ a.out), (pb_ g.out), z.out, fa.out, r.out, s.out, (hs_ A.out)⟩)
  skip
  refine bs1_ 8 #[.int .i64 0, .int .i64 0, .slice none 0 0] 26 ?_
  intro q hg Pb T hb
  replace c := se_ c hg hb
  have g := Aside0.mk (T)
  have z := gq_ hg A
  have fa := gq_ hg A
  replace A := st_ A hb
  have r := nk_ a hg
  have s := Ne_.mk (ng_ a.out hg)
  replace a := bk2_ a hb
  clear hb T hg
  refine ho_ hK ⟨bx_ a.out 0, bx_ a.out 1, bx_ a.out 2, bx_ a.out 3, ((A.out.cell (World.block_lt_of_cell? w _ o)).trans o), ((A.out.cell (World.block_lt_of_cell? w _ m)).trans m), ((A.out.cell (World.block_lt_of_cell? w _ l)).trans l)⟩ (fun y => ?_)
  refine o1_ 5 (m_ 12 575) ea (fun K hK => ?_)
  refine gs_ Tryz.func9 #[.agg #[.int .i64 ((rd_T26 O b).f0), .int .i64 ((rd_T26 O b).f1), .slice U ((rd_T26 O b).f2).length V], .agg #[.slice P B.length Q, .int .i64 L, .int .i64 M, .string N]] ?_
  with_reducible refine (spec_PutIn.calls k ((rd_T26 O b).f0) ((rd_T26 O b).f1) _ _ ((rd_T26 O b).f2) _ _ B L M N G I E ca _ ?side1 ?side2 ?side3 ?side4 ab.out).mono ?_
  (case side1 => exact cp_ ((Kd.C_below da.out A.out)))
  (case side2 => exact ka.out)
  (case side3 => exact cp_ ((Kd.C_below sa.out A.out)))
  (case side4 => exact ta.out)
  rintro e Qb ⟨ha, rfl, Y, hb⟩
  refine ⟨_, rfl, ?_⟩
  obtain ⟨F, aa⟩ := Kd.S_name Y
  replace c := su_ aa (sp_ c.out) hb
  have D := Aside0.mk (Kd.S_lower (Kd.S_newB (Kd.S_gez aa Y) (pb_ a.out)) (below_size (hs_ A.out)))
  replace a := bk2_ a hb
  replace g := bk2_ g hb
  replace A := st_ A hb
  (try clear hb)
  (try clear hk)
  (try clear Y)
  refine ho_ hK ⟨bx_ a.out 0, bx_ a.out 1, bx_ a.out 2, bx_ a.out 3, ((A.out.cell (World.block_lt_of_cell? w _ o)).trans o), ((A.out.cell (World.block_lt_of_cell? w _ m)).trans m), ((A.out.cell (World.block_lt_of_cell? w _ l)).trans l)⟩ (fun y => ?_)
  refine qw_ 6 (m_ 12 639) ea ?_
  refine qw_ 7 (m_ 12 767) ea ?_
  refine qw_ 8 (b_ 10 2) ea ?_
  exact norm_ (by simp only [putAll, fr_]) (za (ha, F, q) _ ⟨y, (Kd.S_mono (sp_ c.out) (fun _ hk => ⟨hk.1.1.2, ⟨hk.1.2, ⟨hk.1.1.1.2, hk.2⟩⟩⟩)), (Kd.S_mono (sp_ D.out) (fun _ hk => ⟨hk.2, hk.1.2⟩)), (pb_ a.out), (pb_ g.out), z.out, fa.out, r.out, s.out, (hs_ A.out)⟩)
 rintro ⟨ha, F, q⟩ X ⟨Rb, bb, cb, db, eb, fb, gb, ib, jb, kb⟩
 replace c : Aside0 (Kd.S k26 26 X w.heap.size (fun k_ => k_ ≠ d ∧ k_ ≠ q ∧ Z ≤ k_ ∧ k_ < F) ma x) := ⟨bb⟩
 have D : Aside0 (Kd.S k80 80 X w.heap.size (fun k_ => k_ ≠ d ∧ F ≤ k_) ha E) := ⟨cb⟩
 replace a : Aside0 (X.heap[d]? = some (.cells #[.slice P B.length Q, .int .i64 L, .int .i64 M, .string N] 29 (0, 0))) := ⟨db⟩
 have g : Aside0 (X.heap[q]? = some (.cells #[.int .i64 0, .int .i64 0, .slice none 0 0] 26 (0, 0))) := ⟨eb⟩
 have z := Ge_.mk fb
 have fa := Ge_.mk gb
 have r := Ne_.mk ib
 have s := Ne_.mk jb
 replace A : Aside0 (Below w.heap.size w X) := ⟨kb⟩
 clear bb cb db eb fb gb ib jb kb
 have y : X.cell? ⟨d, 0, none⟩ = some (.slice P B.length Q) ∧ X.cell? ⟨d, 1, none⟩ = some (.int .i64 L) ∧ X.cell? ⟨d, 2, none⟩ = some (.int .i64 M) ∧ X.cell? ⟨d, 3, none⟩ = some (.string N) ∧ X.cell? (u.add ((b).toNat * 3)) = some (.int .i64 ((rd_T26 O b).f0)) ∧ X.cell? ⟨(u.add ((b).toNat * 3)).block, (u.add ((b).toNat * 3)).off + 1, none⟩ = some (.int .i64 ((rd_T26 O b).f1)) ∧ X.cell? ⟨(u.add ((b).toNat * 3)).block, (u.add ((b).toNat * 3)).off + 2, none⟩ = some (.slice U ((rd_T26 O b).f2).length V) := Rb
 obtain ⟨qa, ra, Ja⟩ := Kd.S_slice D.out
 (first | subst Ja | (obtain ⟨rfl, rfl⟩ := si_ Ja))
 refine nm_ ?_
 refine o1_ 10 (b_ 11 1) ea (fun K hK => ?_)
 have hc : X.cell? ⟨q, 0, none⟩ = some (.int .i64 0) := bx_ g.out 0
 have Sb := blk_frozen g.out 0
 have lb := r.out
 have mb := s.out
 have ic : X.cell? ⟨q, 1, none⟩ = some (.int .i64 0) := bx_ g.out 1
 have Tb := blk_frozen g.out 1
 have nb := r.out
 have ob := s.out
 have jc : X.cell? ⟨q, 2, none⟩ = some (.slice none 0 0) := bx_ g.out 2
 have Ub := blk_frozen g.out 2
 have pb := r.out
 have qb := s.out
 refine skip_ (w1 := ?_) (by rfl) rfl ?_ ?_
 rotate_left
 ·
  go_simp
  rfl
 refine hK.out _ _ ⟨(cg_ (y.1)), (cg_ (y.2.1)), (cg_ (y.2.2.1)), (cg_ (y.2.2.2.1)), (ce_ o z.out ((ce_ o z.out ((ce_ o z.out (y.2.2.2.2.1)))))), (ce_ m z.out ((ce_ m z.out ((ce_ m z.out (y.2.2.2.2.2.1)))))), (ce_ l z.out ((ce_ l z.out ((ce_ l z.out (y.2.2.2.2.2.2))))))⟩ (fun y => ?_)
 clear hK K
 refine p_ ea ?_
 refine done_ (done_of ea.out (by kernel_rfl)) ?_
 generalize hw_ : (((X.setCell ⟨q, 0, none⟩ (.int .i64 G)).setCell ⟨q, 1, none⟩ (.int .i64 I)).setCell ⟨q, 2, none⟩ (.slice qa E.length ra)) = ba
 have rb : Aside0 (Kd.S k26 26 ba w.heap.size (fun k_ => k_ ≠ d ∧ k_ ≠ q ∧ Z ≤ k_ ∧ k_ < F) ma x) := ⟨by rw [← hw_]; exact (Kd.S_mono (sf_ q c.out (fun _ hk => hk.2.1)) (fun _ hk => ⟨hk.1, ⟨hk.2.1, ⟨hk.2.2.1, hk.2.2.2⟩⟩⟩))⟩
 have sb : Aside0 (Kd.S k80 80 ba w.heap.size (fun k_ => k_ ≠ d ∧ F ≤ k_) (.slice qa E.length ra) E) := ⟨by rw [← hw_]; exact (Kd.S_mono (sy_ D.out g.out) (fun _ hk => ⟨hk.1, hk.2⟩))⟩
 have tb : Aside0 (ba.heap[d]? = some (.cells #[.slice P B.length Q, .int .i64 L, .int .i64 M, .string N] 29 (0, 0))) := ⟨by rw [← hw_]; exact (bq_ a.out)⟩
 have ub : Aside0 (ba.heap[q]? = some (.cells #[.int .i64 G, .int .i64 I, .slice qa E.length ra] 26 (0, 0))) := ⟨by rw [← hw_]; exact (bp_ g.out)⟩
 have vb : Aside0 (Below w.heap.size w ba) := ⟨by rw [← hw_]; exact (hs_ A.out)⟩
 clear hw_
 (try clear c)
 (try clear D)
 (try clear a)
 (try clear g)
 (try clear A)
 have c := rb
 have D := sb
 have a := tb
 have g := ub
 have A := vb
 clear rb sb tb ub vb
 have Vb := s.out
 have Wb := r.out
 obtain ⟨Xb, Yb, Zb, ac, bc, cc⟩ := bc3_ g.out
 obtain ⟨Qa, Ra⟩ : 0 ≤ (b : Int) ∧ (b : Int) < ((x.length : Int) : Int) := pq_
 obtain ⟨go12, Ka, La, Ma, gl12, cl12, HG12⟩ := Kd.S_form c.out (by omega)
 (first | cases La | (injection La with ea_ en_ ec_; (first | subst ea_ | (injection ea_ with ea_; subst ea_)); subst ec_; clear en_))
 have GB12 := Aside0.mk Ma
 have GG12 := Aside0.mk HG12
 clear Ma gl12 HG12
 obtain ⟨_, kc, hcl12, hM12, oa, hfr12, _, _⟩ := Kd.S_elem c.out z26 (b : Int) Qa Ra
 obtain ⟨Ea, rfl, yb⟩ := k26_openM hM12
 have zb : ba.cell? ⟨go12, (b : Int).toNat * 3, none⟩ = some (.int .i64 ((rd_T26 x b).f0)) := oa 0 _ rfl
 have Ab : ba.cell? ⟨go12, (b : Int).toNat * 3 + 1, none⟩ = some (.int .i64 ((rd_T26 x b).f1)) := oa 1 _ rfl
 have Bb : ba.cell? ⟨go12, (b : Int).toNat * 3 + 2, none⟩ = some (Ea) := oa 2 _ rfl
 have hf12_0 : ba.frozen? ⟨go12, (b : Int).toNat * 3, none⟩ = false := hfr12 0
 have hf12_1 : ba.frozen? ⟨go12, (b : Int).toNat * 3 + 1, none⟩ = false := hfr12 1
 have hf12_2 : ba.frozen? ⟨go12, (b : Int).toNat * 3 + 2, none⟩ = false := hfr12 2
 clear hcl12 oa hfr12 hM12
 replace Qa := eq_true Qa; replace Ra := eq_true Ra
 obtain ⟨Sa, Fa, ga⟩ := Kd.S_fp (Kd.S_types (Kd.S_apart' (D.out) (Kd.S_typed c.out) (by decide)) g.out (by decide))
 have HX28 := Aside0.mk (show Kd.S k26 26 ba w.heap.size (fun k_ => ((fun k_ => k_ ≠ d ∧ k_ ≠ q)) k_ ∧ ¬ ((fun k_ => Sa k_)) k_) (.slice (some ⟨go12, 0, none⟩) x.length Ka) x from (Kd.S_mono (sp_ c.out) (fun k_ hk => ⟨⟨hk.1, hk.2.1⟩, fun e_ => (fun ez_ => Nat.lt_irrefl _ (Nat.lt_of_lt_of_le hk.2.2.2 (ga _ ez_).1.1.1.2)) e_⟩)))
 obtain ⟨oki28, lc, hcl28, hM28, pa, hfr28, hoki28, hH28⟩ := Kd.S_elem HX28.out z26 (b : Int) (of_decide_eq_true (by with_reducible assumption)) (by have h_ : (b : Int) < ((x.length : Int) : Int) := of_decide_eq_true (by with_reducible assumption); first | exact h_ | (have e_ := (Kd.S_reads' c.out).1; omega) | simpa using h_)
 obtain ⟨Cb, rfl, Db⟩ := k26_openM hM28
 have HP28 := Kd.S_seg hH28 (of_decide_eq_true (by with_reducible assumption)) (by have h_ : (b : Int) < ((x.length : Int) : Int) := of_decide_eq_true (by with_reducible assumption); first | exact h_ | (have e_ := (Kd.S_reads' c.out).1; omega) | simpa using h_) (seg := [.int .i64 G, .int .i64 I, .slice qa E.length ra]) (j := 0) (show 3 ≤ 3 from by decide) (x' := (⟨G, I, E⟩ : S26)) (k26_mkM _ _ _ (⟨G, I, E⟩ : S26) (Kd.S_mono Fa (fun _ h_ => Or.inr (h_)))) (fun _ hk => hk) (fun k_ hk_ => ⟨⟨(ga k_ hk_).1.1.1.1, (ga k_ hk_).1.2⟩, fun e_ => ((ga k_ hk_).1.1.2) (by rw [e_]; rfl)⟩)
 have Ga := pa 0 _ rfl
 (try simp only [show (k26).sz = 3 from rfl, Nat.mul_one, Nat.add_zero] at Ga)
 have hf28_0 := hfr28 0
 (try simp only [show (k26).sz = 3 from rfl, Nat.mul_one, Nat.add_zero] at hf28_0)
 have Ha := pa 1 _ rfl
 (try simp only [show (k26).sz = 3 from rfl, Nat.mul_one, Nat.add_zero] at Ha)
 have hf28_1 := hfr28 1
 (try simp only [show (k26).sz = 3 from rfl, Nat.mul_one, Nat.add_zero] at hf28_1)
 have Ia := pa 2 _ rfl
 (try simp only [show (k26).sz = 3 from rfl, Nat.mul_one, Nat.add_zero] at Ia)
 have hf28_2 := hfr28 2
 (try simp only [show (k26).sz = 3 from rfl, Nat.mul_one, Nat.add_zero] at hf28_2)
 clear hcl28 pa hfr28 hM28 hoki28 hH28
 try go_wp2_with (first | ((with_reducible refine gate_store (t := 26) (p := 32) rfl ?_); refine store_event (t := 26) (p := 32) (v := ?vo_w29) (w1 := (((ba.setCell ⟨go12, (b : Int).toNat * 3, none⟩ (.int .i64 G)).setCell ⟨go12, (b : Int).toNat * 3 + 1, none⟩ (.int .i64 I)).setCell ⟨go12, (b : Int).toNat * 3 + 2, none⟩ (.slice qa E.length ra))) ?hg ?ho ?hn ?hr ?_; (case ho => rfl); (case hg => rfl); (case hn => rfl); (case hr => first | (go_simp; done) | (go_simp; rfl)); intro Ta hw; have hg : ba.grownBy Ta (some go12) := (by rw [hw]; exact HP28.2); have hp_ : Kd.S k26 26 Ta w.heap.size (fun k_ => k_ ≠ d ∧ k_ ≠ q) (.slice (some ⟨go12, 0, none⟩) x.length Ka) ya := (by rw [hw, Da.out]; exact HP28.1); clear HP28; replace a := Aside0.mk (blk_grown (bq_ a.out) hg (Kd.S_ne c.out a.out (by decide))); replace g := Aside0.mk (blk_grown (bq_ g.out) hg (Kd.S_away c.out (fun _ hk => hk.2.1))); replace c := Aside0.mk (hp_); replace A := Aside0.mk ((by rw [hw]; exact below_set (below_set (below_set (A.out) GB12.out) GB12.out) GB12.out : Below w.heap.size w Ta)); clear D; clear hg hw hp_))
 go_ret2
 exact ⟨_, rr_, Kd.S_mono (sp_ c.out) (fun _ hk => trivial), hs_ A.out⟩
def spec_StoreNew.l0 : Nat → Int → List (S26) → Option ((List (S26)))
 | 0, _, _ => none
 | k + 1, x0, x3 => if (x3.length : Int) < x0 then (if x0 ≤ 3 then (if x3.length < 3518437208883 then (spec_StoreNew.l0 k x0 (x3 ++ [(⟨(-1), 0, ([] : List (S80))⟩ : S26)])) else (none)) else (some x3)) else (some x3)
def spec_StoreNew.f (k : Nat) (a0 : Int) : Option ((List (S26))) := spec_StoreNew.l0 k a0 (([(⟨(-1), 0, ([] : List (S80))⟩ : S26)] : List (S26)))
theorem spec_StoreNew.calls (k : Nat) (p : Int) (r : List (S26)) (w : World) (h : spec_StoreNew.f k p = some r) :
  Calls Tryz.prog 49 #[.int .i64 p] w fun e w' => ∃ v0_ : Value, e = .returned (v0_) ∧ Kd.S k26 26 w' w.heap.size (fun _ => True) v0_ r ∧ Below w.heap.size w w' := by
 have hu26 := Tryz.underlying26
 have g := Aside0.mk (Below.refl w.heap.size w)
 have H : (spec_StoreNew.l0 k p (([(⟨(-1), 0, ([] : List (S80))⟩ : S26)] : List (S26)))) = some r := h
 clear h
 obtain ⟨i, hy_⟩ : ∃ y_ : List (S26), y_ = (([(⟨(-1), 0, ([] : List (S80))⟩ : S26)] : List (S26))) := ⟨_, rfl⟩
 replace H : (spec_StoreNew.l0 k p i) = some r := hm_
 have d := Aside0.mk hy_; clear hy_
 have H' := Aside0.mk H
 clear H
 go_enter Tryz.func49, Tryz.ntmps49
 go_wp2_with (first | ((with_reducible refine gd_ 5 rfl ?_); refine Kd.S_lit k26 _ 26 ?hg (N := 5) ?hd (xs := ([(⟨(-1), 0, ([] : List (S80))⟩ : S26)] : List (S26))) (inner := [.int .i64 (-1), .int .i64 0, .slice none 0 0]) (ok := fun _ => True) (okp := fun _ => True) ?hr ?hp (fun _ hk => hk) trivial (Below.refl _ _) (Nat.le_refl _) (by simp) ?_; (case hd => rfl); (case hg => rfl); (case hr => first | (go_simp; done) | (go_simp; rfl)); (case hp => exact (Reps.c3 (show Kd.M k26 _ _ _ (⟨(-1), 0, ([] : List (S80))⟩ : S26) [.int .i64 (-1), .int .i64 0, .slice none 0 0] from (k26_mkM _ _ _ (⟨(-1), 0, ([] : List (S80))⟩ : S26) (Kd.S_nil _ _ _ _ _))) (Reps.none _ _))); intro A Q j hb hg_ hnew_; clear hg_ hnew_; (first | rw [← d.out] at j | (simp only [Int.reduceToNat] at j; rw [← d.out] at j)); have m := sw_ j g; have q := st_ g hb; clear g; have g := q; clear q; clear hb j))
 go_loopg [3] k (fun kq L w' => ∃ (a : List (S26)), Aside0 (spec_StoreNew.l0 kq p a = some r) ∧ Aside0 (kq ≤ k) ∧ Aside0 (Kd.S k26 26 w' w.heap.size (fun _ => True) L a) ∧ Aside0 (Below w.heap.size w w'))
 case atStart => exact ⟨(i), H', ⟨Nat.le_refl _⟩, ⟨sp_ m.out⟩, ⟨hs_ g.out⟩⟩
 case round =>
  clear H'
  obtain ⟨a, B, s, c, g⟩ := hrel
  cases gk with
  | zero => exact absurd B.out (by simp [spec_StoreNew.l0])
  | succ I =>
   have H := B.out
   clear B
   simp only [spec_StoreNew.l0] at H
   replace H := ie_ H; rcases H with ⟨t, H⟩ | ⟨t, H⟩
   ·
    have u := decide_eq_true t
    clear t
    replace H := ie_ H; rcases H with ⟨v, H⟩ | ⟨v, H⟩
    ·
     have x := decide_eq_true v
     clear v
     replace H := im_ H; obtain ⟨y, H⟩ := H
     obtain ⟨l, hy_⟩ : ∃ y_ : List (S26), y_ = (a ++ [(⟨(-1), 0, ([] : List (S80))⟩ : S26)]) := ⟨_, rfl⟩
     replace H : (spec_StoreNew.l0 I p l) = some r := hm_
     have n := Aside0.mk hy_; clear hy_
     have H' := Aside0.mk H
     clear H
     obtain ⟨C, D, E⟩ := Kd.S_slice c.out
     subst E
     go_wp2_with (first | ((with_reducible refine gate_builtin (b := .append) (xs := #[.tmp 14, .tmp 16]) rfl ?_); at_builtin; refine Kd.S_append k26 (w0 := w) w.heap.size rfl (.tmp 14) (.tmp 16) 54 26 (.agg #[(.int .i64 0), (.int .i64 0), (.slice none 0 0)]) 40 rfl Tryz.underlying54 info26 rfl (by decide) (by omega) (.slice C a.length D) a (⟨(-1), 0, ([] : List (S80))⟩ : S26) [.int .i64 (-1), .int .i64 0, .slice none 0 0] (fun _ => True) (fun _ => False) rfl rfl ?aP (fun k_ hk_ => hk_.elim) ?aF ?aO ?aB ?aS ?aL ?_; (case aP => exact k26_mkM _ _ _ (⟨(-1), 0, ([] : List (S80))⟩ : S26) (Kd.S_nil _ _ _ _ _)); (case aB => exact (hs_ g.out)); (case aF => exact (fun _ _ => trivial)); (case aO => exact (Kd.S_mono (sp_ c.out) (fun k_ hk => ⟨trivial, fun e_ => e_⟩))); (case aS => exact (below_size (hs_ g.out))); (case aL => have := y.out; omega); intro F R ho hb hg hat; rw [← n.out] at ho; replace g := Aside0.mk (hb); have o := Aside0.mk (ho); clear c; clear ho hb hg hat))
     go_roundg I
     case measure => have := s.out; omega
     case rel => exact ⟨(l), H', ⟨by have := s.out; omega⟩, ⟨sp_ o.out⟩, ⟨hs_ g.out⟩⟩
    have x : decide (p ≤ 3) = false := decide_eq_false v
    clear v
    obtain rfl := Option.some.inj H
    obtain ⟨O, P, G⟩ := Kd.S_slice c.out
    subst G
    go_wp2
    go_ret
    exact ⟨_, rr_, sp_ c.out, hs_ g.out⟩
   have u : decide ((a.length : Int) < p) = false := decide_eq_false t
   clear t
   obtain rfl := Option.some.inj H
   obtain ⟨J, K, z⟩ := Kd.S_slice c.out
   subst z
   go_wp2
   go_ret
   exact ⟨_, rr_, sp_ c.out, hs_ g.out⟩
def spec_l8Draw.l0 : Nat → List (S26) → Int → List Int → Int → Int → Option ((List (S26)) × Int × Int)
 | 0, _, _, _, _, _ => none
 | k + 1, x3, x4, x1000, x1001, x1002 => if x4 > 0 then ((spec_l4Draw.f k x1000 x1001 x1002).bind fun bt1341 => ((spec_PutAlarm.f k x3 bt1341.1 bt1341.2.1 bt1341.2.2.1 bt1341.2.2.2.1).bind fun bt1349 => (spec_l8Draw.l0 k bt1349.1 (wrap64 (x4 - 1)) x1000 bt1341.2.2.2.2.1 bt1341.2.2.2.2.2))) else (some (x3, x1001, x1002))
def spec_l8Draw.f (k : Nat) (s0_0 : List Int) (s0_1 : Int) (s0_2 : Int) : Option ((List (S26)) × Int × Int) := (spec_l1Below.f s0_0 s0_1 s0_2 3).bind fun bt1332 => ((spec_StoreNew.f k (wrap64 (1 + bt1332.1))).bind fun t1335 => ((spec_l1Below.f s0_0 bt1332.2.1 bt1332.2.2 8).bind fun bt1338 => (spec_l8Draw.l0 k t1335 bt1338.1 s0_0 bt1338.2.1 bt1338.2.2)))
theorem spec_l8Draw.calls (k : Nat) (g : Nat) (a : List Int) (y : Int) (z : Int) (r1 : List (S26)) (r2 : Int) (r3 : Int) (A w : World) (hI : IsS102 A w g a y z) (hB : Below A.heap.size A w) (h : spec_l8Draw.f k a y z = some (r1, r2, r3)) :
  Calls Tryz.prog 83 #[.pointer (some ⟨g, 0, none⟩)] w fun e w' => ∃ v0_ : Value, e = .returned (v0_) ∧ Kd.S k26 26 w' w.heap.size (fun _ => True) v0_ r1 ∧ IsS102 A w' g a r2 r3 ∧ Below A.heap.size A w' ∧ KeepBut w w' g none := by
 have b := Aside0.mk hI
 have HK := Aside0.mk (KeepBut.refl w g none)
 have HL := Aside0.mk hB.size
 clear hI
 have la := Aside0.mk hB.size
 have r := Aside0.mk hB
 clear hB
 have H : ((spec_l1Below.f a y z 3).bind fun bt1332 => ((spec_StoreNew.f k (wrap64 (1 + bt1332.1))).bind fun n => ((spec_l1Below.f a bt1332.2.1 bt1332.2.2 8).bind fun bt1338 => (spec_l8Draw.l0 k n bt1338.1 a bt1338.2.1 bt1338.2.2)))) = some (r1, r2, r3) := h
 clear h
 replace H := bi_ H; obtain ⟨⟨s, B, C⟩, A2, H⟩ := H; (try dsimp only at H)
 replace H := bi_ H; obtain ⟨n, A3, H⟩ := H
 replace H := bi_ H; obtain ⟨⟨D, E, F⟩, A4, H⟩ := H; (try dsimp only at H)
 have H' := Aside0.mk H
 clear H
 go_enter Tryz.func83, Tryz.ntmps83
 go_wp2_with (first | ((with_reducible refine gate_callee (f := 69) rfl ?_); refine gl_ (some 6) Tryz.func69 #[.pointer (some ⟨g, 0, none⟩), .int .i64 3] ?_; (with_reducible refine (spec_l1Below.calls g a y z 3 s B C A _ ?side1 ?side2 A2.out).mono ?_); (case side1 => exact IsS102.pk_ b.out); (case side2 => exact hs_ r.out); rintro e w5 ⟨rfl, hi, hb, hk⟩; refine ⟨_, rfl, ?_⟩; replace HK := kh_ HK hk; replace r := Aside0.mk (hb); replace b := Aside0.mk (hi); (try clear hb); (try clear hk); (try clear hi)) | ((with_reducible refine gate_callee (f := 49) rfl ?_); refine gl_ (some 8) Tryz.func49 #[.int .i64 (wrap64 (1 + s))] ?_; (with_reducible refine (spec_StoreNew.calls k (wrap64 (1 + s)) n _ A3.out).mono ?_); rintro e w6 ⟨fa, rfl, l, hb⟩; refine ⟨_, rfl, ?_⟩; obtain ⟨N, K⟩ := Kd.S_name l; have o := Aside0.mk (Kd.S_lower (Kd.S_gez K l) (ks_ HK)); have O := IsS102.bk_ b hb; have P := kt_ HK hb; have Q := st_ r hb; clear b HK r; have b := O; have HK := P; have r := Q; clear O P Q; (try clear hb); (try clear hk); (try clear hi); (try clear l)) | ((with_reducible refine gate_callee (f := 69) rfl ?_); refine gl_ (some 10) Tryz.func69 #[.pointer (some ⟨g, 0, none⟩), .int .i64 8] ?_; (with_reducible refine (spec_l1Below.calls g a B C 8 D E F A _ ?side1 ?side2 A4.out).mono ?_); (case side1 => exact IsS102.pk_ b.out); (case side2 => exact hs_ r.out); rintro e w7 ⟨rfl, hi, hb, hk⟩; refine ⟨_, rfl, ?_⟩; replace o := IsS102.sk_ b o hk; replace HK := kh_ HK hk; replace r := Aside0.mk (hb); replace b := Aside0.mk (hi); (try clear hb); (try clear hk); (try clear hi)))
 go_loopg [3, 4] k (fun kq v3 v4 w' => ∃ (q : List (S26)) (m : Int) (c : Int) (d : Int), v4 = .int .i64 m ∧ Aside0 (spec_l8Draw.l0 kq q m a c d = some (r1, r2, r3)) ∧ Aside0 (kq ≤ k) ∧ Aside0 (Kd.S k26 26 w' w.heap.size (fun _ => True) v3 q) ∧ Aside0 (IsS102 A w' g a c d) ∧ Aside0 (KeepBut w w' g none) ∧ Aside0 (Below A.heap.size A w'))
 case atStart => exact ⟨(n), (D), (E), (F), rs_, H', ⟨Nat.le_refl _⟩, ⟨Kd.S_mono (sp_ o.out) (fun _ hk => trivial)⟩, ⟨IsS102.pk_ b.out⟩, ⟨ku_ HK.out⟩, ⟨hs_ r.out⟩⟩
 case round =>
  clear H'
  obtain ⟨q, m, c, d, rfl, HA, R, j, b, HK, r⟩ := hrel
  cases gk with
  | zero => exact absurd HA.out (by simp [spec_l8Draw.l0])
  | succ k1 =>
   have H := HA.out
   clear HA
   simp only [spec_l8Draw.l0] at H
   replace H := ie_ H; rcases H with ⟨T, H⟩ | ⟨T, H⟩
   ·
    have U : decide (0 < m) = true := decide_eq_true T
    clear T
    replace H := bi_ H; obtain ⟨⟨t, u, v, x, G, I⟩, A9, H⟩ := H; (try dsimp only at H)
    replace H := bi_ H; obtain ⟨⟨J, M⟩, ia, H⟩ := H; (try dsimp only at H)
    have H' := Aside0.mk H
    clear H
    go_wp2_with (first | ((with_reducible refine gate_callee (f := 52) rfl ?_); refine gl_ (some 18) Tryz.func52 #[.pointer (some ⟨g, 0, none⟩)] ?_; (with_reducible refine (spec_l4Draw.calls k1 g a c d t u v x G I A _ ?side1 ?side2 A9.out).mono ?_); (case side1 => exact IsS102.pk_ b.out); (case side2 => exact hs_ r.out); rintro e sa ⟨ja, rfl, l, hi, hb, hk⟩; refine ⟨_, rfl, ?_⟩; replace j := Aside0.mk (Kd.S_mono (Kd.S_told (Kd.S_oldK (IsS102.apartS (IsS102.pk_ b.out) (sp_ j.out) (by decide)) hk) (Kd.R_base l)) (fun _ h_ => h_.1)); have i := rl_ l HK; replace HK := kh_ HK hk; replace r := Aside0.mk (hb); replace b := Aside0.mk (hi); (try clear hb); (try clear hk); (try clear hi); (try clear l); obtain ⟨V, W, X⟩ := Kd.S_slice j.out; subst X; obtain ⟨Y, Z, aa⟩ := Kd.R_slice i.out; subst aa) | ((with_reducible refine gate_callee (f := 37) rfl ?_); refine gl_ (some 19) Tryz.func37 #[.slice V q.length W, .agg #[.slice Y t.length Z, .int .i64 u, .int .i64 v, .string x]] ?_; (with_reducible refine (spec_PutAlarm.calls k1 _ _ q _ _ t u v x J M _ ?side1 ?side2 ?side3 ?side4 ia.out).mono ?_); (case side1 => exact cp_ ((Kd.S_reads' j.out).2.2)); (case side2 => exact (Kd.S_reads' j.out).2.1); (case side3 => exact cp_ ((Kd.R_reads' i.out).2.2)); (case side4 => exact (Kd.R_reads' i.out).2.1); rintro e ta ⟨ka, rfl, l, hb⟩; refine ⟨_, rfl, ?_⟩; obtain ⟨ba, p⟩ := Kd.S_name l; replace j := su_ p (sp_ j.out) hb; replace i := ru_ p (rp_ i.out) hb; have L := Aside0.mk (Kd.S_lower (Kd.S_gez p l) (ks_ HK)); replace b := IsS102.bk_ b hb; replace HK := kt_ HK hb; replace r := st_ r hb; (try clear hb); (try clear hk); (try clear hi); (try clear l)))
    go_roundg k1
    case measure => have := R.out; omega
    case rel => exact ⟨(J), (wrap64 (m - 1)), (G), (I), rs_, H', ⟨by have := R.out; omega⟩, ⟨Kd.S_mono (sp_ L.out) (fun _ hk => trivial)⟩, ⟨IsS102.pk_ b.out⟩, ⟨ku_ HK.out⟩, ⟨hs_ r.out⟩⟩
   have U : decide (0 < m) = false := decide_eq_false T
   clear T
   simp only [Option.some.injEq, Prod.mk.injEq] at H
   obtain ⟨rfl, rfl, rfl⟩ := H
   go_wp2
   go_ret
   exact ⟨_, rr_, sp_ j.out, IsS102.pk_ b.out, hs_ r.out, ku_ HK.out⟩
def spec_DrawStore.f (k : Nat) (l0 : List Int) : Option ((List (S26)) × (List (S99)) × Int × Int × ByteArray) := (spec_l1New.f k l0).bind fun bt1354 => ((spec_l8Draw.f k bt1354.1 bt1354.2.1 bt1354.2.2).bind fun bt1358 => ((spec_l4Draw.f k bt1354.1 bt1358.2.1 bt1358.2.2).bind fun bt1363 => ((spec_AllAlarms.f k bt1358.1).bind fun t1372 => ((spec_l7Labels.f k bt1354.1 bt1363.2.2.2.2.1 bt1363.2.2.2.2.2 t1372).bind fun bt1375 => (some (bt1358.1, bt1375.1, bt1363.2.1, bt1363.2.2.1, bt1363.2.2.2.1))))))
theorem spec_DrawStore.calls (k : Nat) (A0 : Option Addr) (c0 : Nat) (l0 : List Int) (r1 : List (S26)) (r2 : List (S99)) (r3 : Int) (r4 : Int) (r5 : ByteArray) (w : World) (na : Kd.C (Kd.int .u8) w A0 l0.length l0) (oa : l0.length ≤ c0) (h : spec_DrawStore.f k l0 = some (r1, r2, r3, r4, r5)) :
  Calls Tryz.prog 28 #[.slice A0 l0.length c0] w fun e w' => ∃ v0_ v1_ : Value, e = .returned (.tuple #[v0_, .agg #[v1_, .int .i64 r3, .int .i64 r4, .string r5]]) ∧ Kd.S k26 26 w' w.heap.size (fun k_ => some k_ ≠ (v1_ : Value).ownBlock) v0_ r1 ∧ Kd.R k99 99 w' w.heap.size (fun _ => True) v1_ r2 ∧ Below w.heap.size w w' := by
 have hu29 := Tryz.underlying29
 have Sa := Aside0.mk na
 have Ta := Aside0.mk oa
 clear na oa
 have E := Aside0.mk (Below.refl w.heap.size w)
 have H : ((spec_l1New.f k l0).bind fun bt1354 => ((spec_l8Draw.f k bt1354.1 bt1354.2.1 bt1354.2.2).bind fun bt1358 => ((spec_l4Draw.f k bt1354.1 bt1358.2.1 bt1358.2.2).bind fun bt1363 => ((spec_AllAlarms.f k bt1358.1).bind fun A => ((spec_l7Labels.f k bt1354.1 bt1363.2.2.2.2.1 bt1363.2.2.2.2.2 A).bind fun bt1375 => (some (bt1358.1, bt1375.1, bt1363.2.1, bt1363.2.2.1, bt1363.2.2.2.1))))))) = some (r1, r2, r3, r4, r5) := h
 clear h
 replace H := bi_ H; obtain ⟨⟨r, Z, aa⟩, A2, H⟩ := H; (try dsimp only at H)
 replace H := bi_ H; obtain ⟨⟨F, X, Y⟩, A3, H⟩ := H; (try dsimp only at H)
 replace H := bi_ H; obtain ⟨⟨u, G, I, J, x, y⟩, A4, H⟩ := H; (try dsimp only at H)
 replace H := bi_ H; obtain ⟨A, A5, H⟩ := H
 replace H := bi_ H; obtain ⟨⟨t, ba, ca⟩, A6, H⟩ := H; (try dsimp only at H)
 simp only [Option.some.injEq, Prod.mk.injEq] at H
 obtain ⟨rfl, rfl, rfl, rfl, rfl⟩ := H
 go_enter Tryz.func28, Tryz.ntmps28
 try go_wp2_with (first | ((with_reducible refine gd_ 3 rfl ?_); refine bv_ 3 #[.slice none 0 0, .int .i64 0, .int .i64 0, .string (⟨#[]⟩ : ByteArray)] 29 ?_; intro q hg w7 W hb; have a := Aside0.mk (W); have ea := gq_ hg E; replace E := st_ E hb; have Ja := Ge_.mk ea.out; clear hb W hg) | ((with_reducible refine gate_callee (f := 50) rfl ?_); refine gl_ (some 8) Tryz.func50 #[.slice A0 l0.length c0] ?_; (with_reducible refine (spec_l1New.calls k _ _ l0 r Z aa w _ ?side1 ?side2 ?side3 A2.out).mono ?_); (case side1 => exact hs_ E.out); (case side2 => exact Sa.out); (case side3 => exact Ta.out); rintro e w8 ⟨g1357, rfl, hi, hb, hb2⟩; refine ⟨_, rfl, ?_⟩; replace E := Aside0.mk (hb); have b := Aside0.mk (hi); have fa := Ne_.mk (IsS102.ne_blk hi (bb_ a.out hb2) (by decide)); have ga := Ne_.mk (Ne.symm (IsS102.ne_blk hi (bb_ a.out hb2) (by decide))); replace a := Aside0.mk (bb_ a.out hb2); (try clear hb); (try clear hb2); (try clear hk); (try clear hi)) | ((with_reducible refine gate_callee (f := 83) rfl ?_); refine gl_ (some 10) Tryz.func83 #[.pointer (some ⟨g1357, 0, none⟩)] ?_; (with_reducible refine (spec_l8Draw.calls k g1357 r Z aa F X Y w _ ?side1 ?side2 A3.out).mono ?_); (case side1 => exact IsS102.pk_ b.out); (case side2 => exact hs_ E.out); rintro e w9 ⟨Ua, rfl, z, hi, hb, hk⟩; refine ⟨_, rfl, ?_⟩; have g := Aside0.mk (Kd.S_lower (Kd.S_newB z (pb_ a.out)) (below_size (hs_ E.out))); replace a := kb_ hk a; replace E := Aside0.mk (hb); replace b := Aside0.mk (hi); (try clear hb); (try clear hb2); (try clear hk); (try clear hi); (try clear z)) | ((with_reducible refine gate_callee (f := 52) rfl ?_); refine gl_ (some 12) Tryz.func52 #[.pointer (some ⟨g1357, 0, none⟩)] ?_; (with_reducible refine (spec_l4Draw.calls k g1357 r X Y u G I J x y w _ ?side1 ?side2 A4.out).mono ?_); (case side1 => exact IsS102.pk_ b.out); (case side2 => exact hs_ E.out); rintro e Jb ⟨Va, rfl, z, hi, hb, hk⟩; refine ⟨_, rfl, ?_⟩; replace a := kb_ hk a; replace g := Aside0.mk (Kd.S_mono (Kd.S_told (Kd.S_oldK (IsS102.apartS (show IsS102 w _ g1357 r X Y from IsS102.pk_ b.out) (sp_ g.out) (by decide)) hk) (Kd.R_base z)) (fun _ h_ => h_.1)); have l := rw_ z E; replace E := Aside0.mk (hb); replace b := Aside0.mk (hi); (try clear hb); (try clear hb2); (try clear hk); (try clear hi); (try clear z)) | ((with_reducible refine gd_ 6 rfl ?_); refine bv_ 6 #[.slice none 0 0, .int .i64 0, .int .i64 0, .string (⟨#[]⟩ : ByteArray)] 29 ?_; intro j hg Wa W hb; replace g := se_ g hg hb; replace l := rb_ l hb; have d := Aside0.mk (W); have ha := gq_ hg E; replace E := st_ E hb; have Ka := Ge_.mk ha.out; obtain ⟨m, o, a⟩ := nb_ a hg hb; have D := Ne_.mk ((by rw [hg]; exact Nat.ne_of_lt (IsS102.lt (show IsS102 w _ g1357 r x y from IsS102.pk_ b.out)) : g1357 ≠ j)); replace b := IsS102.bk_ b hb; have T := ns_ D; clear hb W hg; obtain ⟨P, Q, pa⟩ := Kd.R_slice l.out; subst pa; have Xa := o.out; have Ya := m.out; have Za := T.out; have ab := D.out; obtain ⟨bb, cb, db, eb, fb, gb, ib, jb⟩ := bc4_ d.out; obtain ⟨ka, da, qa⟩ := Kd.S_slice g.out; subst qa) | ((with_reducible refine gate_callee (f := 46) rfl ?_); refine gl_ (some 15) Tryz.func46 #[.slice ka F.length da] ?_; (with_reducible refine (spec_AllAlarms.calls k _ _ F A _ ?side1 ?side2 A5.out).mono ?_); (case side1 => refine (Kd.S_reads' (e := 26) (base := w.heap.size) (ok := fun k_ => (((True ∧ k_ ≠ q) ∧ some k_ ≠ (.slice P u.length Q : Value).ownBlock) ∧ k_ ≠ j)) (n := F.length) (c := da) ?_).2.2; exact (sf_ j g.out (fun _ hk => hk.2))); (case side2 => exact (Kd.S_reads' g.out).2.1); rintro e Kb ⟨kb, rfl, z, hb⟩; refine ⟨_, rfl, ?_⟩; obtain ⟨O, U⟩ := Kd.S_name z; replace g := su_ U (sf_ j g.out (fun _ hk => hk.2)) hb; replace l := ru_ U (ry_ l.out d.out) hb; have p := Aside0.mk (Kd.S_lower (Kd.S_newB (Kd.S_newB (Kd.S_gez U z) (bq_ a.out)) (bp_ d.out)) (below_size (hs_ E.out))); replace a := bk2_ a hb; replace b := Aside0.mk (IsS102.below (show IsS102 w ((((Wa.setCell ⟨j, 0, none⟩ (.slice P u.length Q)).setCell ⟨j, 1, none⟩ (.int .i64 G)).setCell ⟨j, 2, none⟩ (.int .i64 I)).setCell ⟨j, 3, none⟩ (.string J)) g1357 r x y from IsS102.pk_ b.out) hb); replace d := by_ d #[.slice P u.length Q, .int .i64 G, .int .i64 I, .string J] hb; replace E := st_ E hb; (try clear hb); (try clear hb2); (try clear hk); (try clear hi); (try clear z); obtain ⟨la, ma, ra⟩ := Kd.S_slice p.out; subst ra) | ((with_reducible refine gate_callee (f := 53) rfl ?_); refine gl_ (some 16) Tryz.func53 #[.pointer (some ⟨g1357, 0, none⟩), .slice la A.length ma] ?_; (with_reducible refine (spec_l7Labels.calls k g1357 r x y _ _ A t ba ca w _ ?side1 ?side2 ?side3 ?side4 A6.out).mono ?_); (case side1 => exact IsS102.pk_ b.out); (case side2 => exact hs_ E.out); (case side3 => exact Kd.C_foot_own ((Kd.S_R (IsS102.apartS (show IsS102 w _ g1357 r x y from IsS102.pk_ b.out) (sp_ p.out) (by decide)))) (fun _ h_ => h_.2)); (case side4 => exact (Kd.S_reads' p.out).2.1); rintro e lb ⟨mb, rfl, z, hi, hb, hk⟩; refine ⟨_, rfl, ?_⟩; replace a := kb_ hk a; replace g := Aside0.mk (Kd.S_mono (Kd.S_told (Kd.S_oldK (IsS102.apartS (show IsS102 w _ g1357 r x y from IsS102.pk_ b.out) (sp_ g.out) (by decide)) hk) (Kd.R_base z)) (fun _ h_ => h_.1)); replace d := kb_ hk d; replace p := Aside0.mk (Kd.S_mono (Kd.S_told (Kd.S_oldK (IsS102.apartS (show IsS102 w _ g1357 r x y from IsS102.pk_ b.out) (sp_ p.out) (by decide)) hk) (Kd.R_base z)) (fun _ h_ => h_.1)); have s := Aside0.mk (Kd.R_lower (Kd.R_new' z (Kd.R_lt (rp_ l.out))) (below_size (hs_ E.out))); replace l := Aside0.mk (Kd.R_mono (Kd.R_told (Kd.R_oldK (IsS102.apart (show IsS102 w _ g1357 r x y from IsS102.pk_ b.out) (rp_ l.out) (by decide)) hk) (Kd.R_base z)) (fun _ h_ => h_.1)); replace E := Aside0.mk (hb); replace b := Aside0.mk (hi); (try clear hb); (try clear hb2); (try clear hk); (try clear hi); (try clear z); obtain ⟨L, M, sa⟩ := Kd.R_slice s.out; subst sa; obtain ⟨nb, ob, pb, qb, rb, sb, tb, ub⟩ := bc4_ d.out))
 generalize hw_ : (lb.setCell ⟨j, 0, none⟩ (.slice L t.length M)) = V
 have ta : Aside0 (Kd.S k26 26 V w.heap.size (fun k_ => some k_ ≠ (.slice P u.length Q : Value).ownBlock ∧ some k_ ≠ (.slice L t.length M : Value).ownBlock ∧ k_ ≠ q ∧ k_ ≠ j ∧ k_ < O) (.slice ka F.length da) F) := ⟨by rw [← hw_]; exact (Kd.S_mono (sf_ j g.out (fun _ hk => hk.1.1.2)) (fun _ hk => ⟨hk.1.1.1.2, ⟨hk.2, ⟨hk.1.1.1.1.2, ⟨hk.1.1.2, hk.1.2⟩⟩⟩⟩))⟩
 have ua : Aside0 (Kd.R k99 99 V w.heap.size (fun k_ => some k_ ≠ (.slice L t.length M : Value).ownBlock ∧ k_ < O) (.slice P u.length Q) u) := ⟨by rw [← hw_]; exact (Kd.R_mono (ry_ l.out d.out) (fun _ hk => ⟨hk.2, hk.1.2⟩))⟩
 have va : Aside0 (Kd.S k29 29 V w.heap.size (fun k_ => some k_ ≠ (.slice L t.length M : Value).ownBlock ∧ k_ ≠ q ∧ k_ ≠ j ∧ O ≤ k_) (.slice la A.length ma) A) := ⟨by rw [← hw_]; exact (Kd.S_mono (sf_ j p.out (fun _ hk => hk.1.2)) (fun _ hk => ⟨hk.2, ⟨hk.1.1.2, ⟨hk.1.2, hk.1.1.1.2⟩⟩⟩))⟩
 have wa : Aside0 (Kd.R k99 99 V w.heap.size (fun k_ => some k_ ≠ (.slice P u.length Q : Value).ownBlock) (.slice L t.length M) t) := ⟨by rw [← hw_]; exact (Kd.R_mono (ry_ s.out d.out) (fun _ hk => hk.2))⟩
 have xa : Aside0 (V.heap[q]? = some (.cells #[.slice none 0 0, .int .i64 0, .int .i64 0, .string (⟨#[]⟩ : ByteArray)] 29 (0, 0))) := ⟨by rw [← hw_]; exact (bq_ a.out)⟩
 have ya : Aside0 (V.heap[j]? = some (.cells #[.slice L t.length M, .int .i64 G, .int .i64 I, .string J] 29 (0, 0))) := ⟨by rw [← hw_]; exact (bp_ d.out)⟩
 have za : Aside0 (IsS102 w V g1357 r ba ca) := ⟨by rw [← hw_]; exact (IsS102.pk_ b.out)⟩
 have Aa : Aside0 (Below w.heap.size w V) := ⟨by rw [← hw_]; exact (hs_ E.out)⟩
 clear hw_
 (try clear g)
 (try clear l)
 (try clear p)
 (try clear s)
 (try clear a)
 (try clear d)
 (try clear b)
 (try clear E)
 have g := ta
 have l := ua
 have p := va
 have s := wa
 have a := xa
 have d := ya
 have b := za
 have E := Aa
 clear ta ua va wa xa ya za Aa
 replace g := Aside0.mk (Kd.S_drew g.out)
 replace l := Aside0.mk (Kd.R_drew l.out)
 replace p := Aside0.mk (Kd.S_drew p.out)
 replace s := Aside0.mk (Kd.R_drew s.out)
 replace a := Aside0.mk (blk_drew a.out)
 replace d := Aside0.mk (blk_drew d.out)
 replace b := Aside0.mk (IsS102.drew b.out)
 replace E := Aside0.mk (bd_ E.out)
 refine start_ (n := 4) (S := fun w' => w'.cell? ⟨j, 0, none⟩ = some (.slice L t.length M) ∧ w'.cell? ⟨j, 1, none⟩ = some (.int .i64 G) ∧ w'.cell? ⟨j, 2, none⟩ = some (.int .i64 I) ∧ w'.cell? ⟨j, 3, none⟩ = some (.string J)) (ds := []) (b_ 0 4) (by kernel_rfl) rfl rfl ⟨bx_ d.out 0, bx_ d.out 1, bx_ d.out 2, bx_ d.out 3⟩ (fun B => ?_)
 generalize V.drew = ia at g l p s a d b E B ⊢
 refine pure_ (i := 0) (N := some 18) (v := ?_) (a' := ?_) #[true, false, false, false] rfl rfl (by kernel_rfl) (fun _ _ _ h => h) (Or.inl ⟨by rfl, ?_⟩) ?_ ?_
 rotate_left
 ·
  intro w'
  go_simp
  with_reducible rfl
 rotate_left
 ·
  simp only [fr_]
  rfl
 refine pure_ (i := 2) (N := some 2) (v := ?_) (a' := ?_) #[true, false, true, false] rfl rfl (by kernel_rfl) (fun _ _ _ h => h) (Or.inl ⟨by rfl, ?_⟩) ?_ ?_
 rotate_left
 ·
  intro w'
  go_simp
  with_reducible rfl
 rotate_left
 ·
  simp only [fr_]
  rfl
 refine take_ (i := 1) (N := some 19) (v := ?_) (a' := ?_) (b_ 3 1) rfl rfl (by kernel_rfl) (fun _ _ _ h => h) (Or.inl ⟨by rfl, ?_⟩) B ?_ ?_
 rotate_left
 ·
  rintro w' ⟨s0, s1, s2, s3⟩
  go_simp
  with_reducible rfl
 rotate_left
 ·
  simp only [fr_]
  rfl
 refine one_ (i := 3) (N := none) (b_ 4 0) rfl rfl (by kernel_rfl) (by decide) (fun K hK => ?_)
 have Ab : ia.cell? ⟨q, 0, none⟩ = some (.slice none 0 0) := bx_ a.out 0
 have vb := blk_frozen a.out 0
 have Ba := o.out
 have Ca := m.out
 have Bb : ia.cell? ⟨q, 1, none⟩ = some (.int .i64 0) := bx_ a.out 1
 have wb := blk_frozen a.out 1
 have Da := o.out
 have Ea := m.out
 have Cb : ia.cell? ⟨q, 2, none⟩ = some (.int .i64 0) := bx_ a.out 2
 have xb := blk_frozen a.out 2
 have Fa := o.out
 have Ga := m.out
 have Db : ia.cell? ⟨q, 3, none⟩ = some (.string (⟨#[]⟩ : ByteArray)) := bx_ a.out 3
 have yb := blk_frozen a.out 3
 have Ha := o.out
 have Ia := m.out
 refine skip_ (w1 := ?_) (by rfl) rfl ?_ ?_
 rotate_left
 ·
  go_simp
  rfl
 refine hK.out _ _ ⟨(cg_ (B.1)), (cg_ (B.2.1)), (cg_ (B.2.2.1)), (cg_ (B.2.2.2))⟩ (fun B => ?_)
 clear hK K
 refine done_ (by kernel_rfl) ?_
 try go_wp2
 refine bodyPost_ret (results_tc rfl _ _ q 29 #[.slice L t.length M, .int .i64 G, .int .i64 I, .string J] (0, 0) _ rfl (bp_ a.out) Tryz.underlying29 rfl (by kernel_rfl)) rfl ?_
 exact ⟨_, _, rr_, Kd.S_mono (sf_ q g.out (fun _ hk => hk.2.2.1)) (fun _ hk => hk.2.1), Kd.R_mono (ry_ s.out a.out) (fun _ hk => trivial), hs_ E.out⟩
def impl_copyAlarms.l0 : Nat → List (S29) → List (S29) → Int → Int → Option ((List (S29)))
 | 0, _, _, _, _ => none
 | k + 1, x3, x6, x7, x8 => if x8 < x7 then (if 0 ≤ x8 then (if x8 < (x6.length : Int) then ((impl_copyAlarm.f ((rd_T29 x6 x8).f0) ((rd_T29 x6 x8).f1) ((rd_T29 x6 x8).f2) ((rd_T29 x6 x8).f3)).bind fun bt655 => (if x3.length < 2513169434916 then (impl_copyAlarms.l0 k (x3 ++ [(⟨bt655.1, bt655.2.1, bt655.2.2.1, bt655.2.2.2⟩ : S29)]) x6 x7 (wrap64 (x8 + 1))) else (none))) else (none)) else (none)) else (some x3)
def impl_copyAlarms.f (k : Nat) (l0 : List (S29)) : Option ((List (S29))) := impl_copyAlarms.l0 k ([] : List (S29)) l0 (l0.length : Int) 0
theorem impl_copyAlarms.calls (k : Nat) (A0 : Option Addr) (c0 : Nat) (l0 : List (S29)) (r : List (S29)) (w : World) (Q : Kd.C k29 w A0 l0.length l0) (R : l0.length ≤ c0) (h : impl_copyAlarms.f k l0 = some r) :
  Calls Tryz.prog 81 #[.slice A0 l0.length c0] w fun e w' => ∃ v0_ : Value, e = .returned (v0_) ∧ Kd.S k29 29 w' w.heap.size (fun _ => True) v0_ r ∧ Below w.heap.size w w' := by
 have hu29 := Tryz.underlying29
 have Z := Aside0.mk Q
 have ta := Aside0.mk R
 clear Q R
 have B := Aside0.mk (Below.refl w.heap.size w)
 have H : (impl_copyAlarms.l0 k ([] : List (S29)) l0 (l0.length : Int) 0) = some r := h
 clear h
 have H' := Aside0.mk H
 clear H
 go_enter Tryz.func81, Tryz.ntmps81
 go_wp2
 go_loopg [3, 8] k (fun kq v3 v8 w' => ∃ (u : List (S29)) (a : Int), v8 = .int .i64 a ∧ Aside0 (impl_copyAlarms.l0 kq u l0 (l0.length : Int) a = some r) ∧ Aside0 (kq ≤ k) ∧ Aside0 (Kd.S k29 29 w' w.heap.size (fun _ => True) v3 u) ∧ Aside0 (Below w.heap.size w w'))
 case atStart => exact ⟨(([] : List (S29))), (0), rs_, H', ⟨Nat.le_refl _⟩, ⟨ni_⟩, ⟨hs_ B.out⟩⟩
 case round =>
  clear H'
  obtain ⟨u, a, rfl, HA, T, d, B⟩ := hrel
  cases gk with
  | zero => exact absurd HA.out (by simp [impl_copyAlarms.l0])
  | succ k1 =>
   have H := HA.out
   clear HA
   simp only [impl_copyAlarms.l0] at H
   replace H := ie_ H; rcases H with ⟨U, H⟩ | ⟨U, H⟩
   ·
    have V := decide_eq_true U
    clear U
    replace H := id_ H; obtain ⟨ga, H⟩ := H
    replace H := id_ H; obtain ⟨ha, H⟩ := H
    replace H := bi_ H; obtain ⟨⟨p, v, x, y⟩, A5, H⟩ := H; (try dsimp only at H)
    replace H := im_ H; obtain ⟨W, H⟩ := H
    obtain ⟨I, hy_⟩ : ∃ y_ : List (S29), y_ = (u ++ [(⟨p, v, x, y⟩ : S29)]) := ⟨_, rfl⟩
    replace H : (impl_copyAlarms.l0 k1 I l0 (l0.length : Int) (wrap64 (a + 1))) = some r := hm_
    have M := Aside0.mk hy_; clear hy_
    have H' := Aside0.mk H
    clear H
    obtain ⟨D, E⟩ : 0 ≤ (a : Int) ∧ a < (l0.length : Int) := pq_
    obtain ⟨ba, q, s, X, i, j, l, m, z, A⟩ := at_T29 Z.out a D E
    cases X
    replace i := c4_ B i j l m; clear j l m; obtain ⟨i, j, l, m⟩ := i
    have F := Aside0.mk A
    have G := Aside0.mk z
    clear A z
    replace D := eq_true D; replace E := eq_true E
    go_wp2_with (first | ((with_reducible refine gd_ 5 rfl ?_); refine bv_ 5 #[.slice none 0 0, .int .i64 0, .int .i64 0, .string (⟨#[]⟩ : ByteArray)] 29 ?_; intro n hg w7 J hb; replace d := se_ d hg hb; have c := Aside0.mk (J); have N := gq_ hg B; replace B := st_ B hb; have ca := Ge_.mk N.out; clear hb J hg; obtain ⟨ia, ja, ka, la, ma, na, oa, pa⟩ := bc4_ c.out) | ((with_reducible refine gate_callee (f := 58) rfl ?_); refine gl_ (some 14) Tryz.func58 #[.agg #[.slice q ((rd_T29 l0 a).f0).length s, .int .i64 ((rd_T29 l0 a).f1), .int .i64 ((rd_T29 l0 a).f2), .string ((rd_T29 l0 a).f3)]] ?_; (with_reducible refine (impl_copyAlarm.calls _ _ ((rd_T29 l0 a).f0) ((rd_T29 l0 a).f1) ((rd_T29 l0 a).f2) ((rd_T29 l0 a).f3) p v x y _ ?side1 ?side2 A5.out).mono ?_); (case side1 => exact Kd.C_below F.out (hs_ B.out)); (case side2 => exact G.out); rintro e w9 ⟨qa, rfl, O, hb⟩; refine ⟨_, rfl, ?_⟩; replace d := Aside0.mk (Kd.S_elder' (sf_ n d.out (fun _ hk => hk.2)) (Kd.R_base O) hb); have t := rw_ O B; replace c := by_ c #[.slice q ((rd_T29 l0 a).f0).length s, .int .i64 ((rd_T29 l0 a).f1), .int .i64 ((rd_T29 l0 a).f2), .string ((rd_T29 l0 a).f3)] hb; replace B := st_ B hb; (try clear hb); (try clear hk); (try clear O); obtain ⟨K, L, Y⟩ := Kd.R_slice t.out; subst Y) | ((with_reducible refine gate_builtin (b := .append) (xs := #[.tmp 12, .tmp 15]) rfl ?_); at_builtin; refine Kd.S_append k29 (w0 := w) w.heap.size rfl (.tmp 12) (.tmp 15) 40 29 (.agg #[(.slice none 0 0), (.int .i64 0), (.int .i64 0), (.string ⟨#[]⟩)]) 56 rfl Tryz.underlying40 info29 rfl (by decide) (by omega) u3 u (⟨p, v, x, y⟩ : S29) [.slice K p.length L, .int .i64 v, .int .i64 x, .string y] (fun k_ => k_ ≠ n) (fun k_ => some k_ = (.slice K p.length L : Value).ownBlock) rfl rfl ?aP (fun k_ hk_ => ((Kd.R_mono (ok' := fun k_ => ((fun k_ => k_ ≠ n)) k_ ∧ some k_ ≠ (u3 : Value).ownBlock) (Kd.R_types (Kd.R_apart' (t.out) (Kd.S_typed d.out) (by decide)) c.out (by decide)) (fun k_ hk => ⟨hk.2, hk.1.2⟩))).1 k_ hk_.symm) ?aF ?aO ?aB ?aS ?aL ?_; (case aP => exact k29_mkM _ _ _ (⟨p, v, x, y⟩ : S29) (Kd.R_mono (Kd.R_tight rfl (Kd.R_mono (ok' := fun k_ => ((fun k_ => k_ ≠ n)) k_ ∧ some k_ ≠ (u3 : Value).ownBlock) (Kd.R_types (Kd.R_apart' (t.out) (Kd.S_typed d.out) (by decide)) c.out (by decide)) (fun k_ hk => ⟨hk.2, hk.1.2⟩))) (fun _ h_ => h_))); (case aB => exact (hs_ B.out)); (case aF => exact (fun k_ hk => Kd.freshB (g := n) (o := .cells #[.slice q ((rd_T29 l0 a).f0).length s, .int .i64 ((rd_T29 l0 a).f1), .int .i64 ((rd_T29 l0 a).f2), .string ((rd_T29 l0 a).f3)] 29 (0, 0)) (pb_ c.out) k_ hk)); (case aO => exact (Kd.S_mono (sp_ d.out) (fun k_ hk => ⟨hk.1.2, fun e_ => hk.2 e_⟩))); (case aS => exact (below_size (hs_ B.out))); (case aL => have := W.out; omega); intro sa xa ho hb hg hat; rw [← M.out] at ho; replace c := Aside0.mk (blk_grown (bq_ c.out) hg (Kd.S_away d.out (fun _ hk => hk.1.2))); replace B := Aside0.mk (hb); have P := Aside0.mk (ho); clear d t; clear ho hb hg hat))
    go_roundg k1
    case measure => have := T.out; omega
    case rel => exact ⟨(I), (wrap64 (a + 1)), rs_, H', ⟨by have := T.out; omega⟩, ⟨Kd.S_mono (sp_ P.out) (fun _ hk => trivial)⟩, ⟨hs_ B.out⟩⟩
   have V : decide (a < (l0.length : Int)) = false := decide_eq_false U
   clear U
   obtain rfl := Option.some.inj H
   go_wp2
   go_ret
   exact ⟨_, rr_, sp_ d.out, hs_ B.out⟩
def impl_copyChain.f (k : Nat) (a0_0 : Int) (l0_1 : List (S29)) : Option (Int × (List (S29))) := (impl_copyAlarms.f k l0_1).bind fun t666 => (some (a0_0, t666))
theorem impl_copyChain.calls (k : Nat) (l : Int) (m : Option Addr) (o : Nat) (c : List (S29)) (O : Int) (P : List (S29)) (w : World) (t : Kd.C k29 w m c.length c) (u : c.length ≤ o) (h : impl_copyChain.f k l c = some (O, P)) :
  Calls Tryz.prog 94 #[.agg #[.int .i64 l, .slice m c.length o]] w fun e w' => ∃ v1_ : Value, e = .returned (.agg #[.int .i64 O, v1_]) ∧ Kd.S k29 29 w' w.heap.size (fun _ => True) v1_ P ∧ Below w.heap.size w w' := by
 have hu80 := Tryz.underlying80
 have z := Aside0.mk t
 have A := Aside0.mk u
 clear t u
 have r := Aside0.mk (Below.refl w.heap.size w)
 have H : ((impl_copyAlarms.f k c).bind fun s => (some (l, s))) = some (O, P) := h
 clear h
 replace H := bi_ H; obtain ⟨s, Z, H⟩ := H
 simp only [Option.some.injEq, Prod.mk.injEq] at H
 obtain ⟨rfl, rfl⟩ := H
 go_enter Tryz.func94, Tryz.ntmps94
 try go_wp2_with (first | ((with_reducible refine gd_ 1 rfl ?_); refine bv_ 1 #[.int .i64 l, .slice m c.length o] 80 ?_; intro x hg w3 p hb; have b := Aside0.mk (p); have B := gq_ hg r; replace r := st_ r hb; have Q := Ge_.mk B.out; clear hb p hg) | ((with_reducible refine gd_ 2 rfl ?_); refine bv_ 2 #[.int .i64 0, .slice none 0 0] 80 ?_; intro q hg w4 p hb; have a := Aside0.mk (p); have D := gq_ hg r; replace r := st_ r hb; have R := Ge_.mk D.out; obtain ⟨g, j, b⟩ := nb_ b hg hb; clear hb p hg))
 replace b := Aside0.mk (blk_drew b.out)
 replace a := Aside0.mk (blk_drew a.out)
 replace r := Aside0.mk (bd_ r.out)
 refine start_ (n := 7) (S := fun w' => w'.cell? ⟨x, 0, none⟩ = some (.int .i64 l) ∧ w'.cell? ⟨x, 1, none⟩ = some (.slice m c.length o)) (ds := []) (b_ 0 7) (by kernel_rfl) rfl rfl ⟨bx_ b.out 0, bx_ b.out 1⟩ (fun d => ?_)
 generalize w4.drew = w5 at b a r d ⊢
 refine pure_ (i := 0) (N := some 3) (v := ?_) (a' := ?_) (b_ 1 6) rfl rfl (by kernel_rfl) (fun _ _ _ h => h) (Or.inl ⟨by rfl, ?_⟩) ?_ ?_
 rotate_left
 ·
  intro w'
  go_simp
  with_reducible rfl
 rotate_left
 ·
  simp only [fr_]
  rfl
 refine pure_ (i := 2) (N := some 5) (v := ?_) (a' := ?_) #[t_,f_,t_,f_,f_,f_,f_] rfl rfl (by kernel_rfl) (fun _ _ _ h => h) (Or.inl ⟨by rfl, ?_⟩) ?_ ?_
 rotate_left
 ·
  intro w'
  go_simp
  with_reducible rfl
 rotate_left
 ·
  simp only [fr_]
  rfl
 refine take_ (i := 1) (N := some 4) (v := ?_) (a' := ?_) (b_ 3 4) rfl rfl (by kernel_rfl) (fun _ _ _ h => h) (Or.inl ⟨by rfl, ?_⟩) d ?_ ?_
 rotate_left
 ·
  rintro w' ⟨s0, s1⟩
  go_simp
  with_reducible rfl
 rotate_left
 ·
  simp only [fr_]
  rfl
 refine take_ (i := 3) (N := some 6) (v := ?_) (a' := ?_) (b_ 4 3) rfl rfl (by kernel_rfl) (fun _ _ _ h => h) (Or.inl ⟨by rfl, ?_⟩) d ?_ ?_
 rotate_left
 ·
  rintro w' ⟨s0, s1⟩
  go_simp
  with_reducible rfl
 rotate_left
 ·
  simp only [fr_]
  rfl
 refine one_ (i := 4) (N := some 7) (b_ 5 2) rfl rfl (by kernel_rfl) (by decide) (fun K G => ?_)
 refine gs_ Tryz.func81 #[.slice m c.length o] ?_
 with_reducible refine (impl_copyAlarms.calls k _ _ c s _ ?side1 ?side2 Z.out).mono ?_
 (case side1 => exact cp_ ((Kd.C_below z.out r.out)))
 (case side2 => exact A.out)
 rintro e V ⟨W, rfl, E, hb⟩
 refine ⟨_, rfl, ?_⟩
 have y := sw_ E r
 replace b := bk2_ b hb
 replace a := bk2_ a hb
 replace r := st_ r hb
 (try clear hb)
 (try clear hk)
 (try clear E)
 obtain ⟨T, U, F⟩ := Kd.S_slice y.out
 (first | subst F | (obtain ⟨rfl, rfl⟩ := si_ F))
 refine ho_ G (e2_ b.out) (fun d => ?_)
 refine pure_ (i := 5) (N := some 8) (v := ?_) (a' := ?_) (b_ 6 1) rfl rfl (by kernel_rfl) (fun _ _ _ h => h) (Or.inl ⟨by rfl, ?_⟩) ?_ ?_
 rotate_left
 ·
  intro w'
  go_simp
  with_reducible rfl
 rotate_left
 ·
  simp only [fr_]
  rfl
 refine one_ (i := 6) (N := none) (b_ 7 0) rfl rfl (by kernel_rfl) (by decide) (fun K G => ?_)
 have ba : V.cell? ⟨q, 0, none⟩ = some (.int .i64 0) := bx_ a.out 0
 have X := blk_frozen a.out 0
 have I := g.out
 have J := j.out
 have ca : V.cell? ⟨q, 1, none⟩ = some (.slice none 0 0) := bx_ a.out 1
 have Y := blk_frozen a.out 1
 have L := g.out
 have M := j.out
 refine skip_ (w1 := ?_) (by rfl) rfl ?_ ?_
 rotate_left
 ·
  go_simp
  rfl
 refine G.out _ _ ⟨(cg_ (d.1)), (cg_ (d.2))⟩ (fun d => ?_)
 clear G K
 refine done_ (by kernel_rfl) ?_
 try go_wp2
 refine bodyPost_ret (results_cell_row rfl _ _ q 80 #[.int .i64 l, .slice T s.length U] (0, 0) _ rfl (bp_ a.out) Tryz.underlying80 rfl (by kernel_rfl)) rfl ?_
 exact ⟨_, rr_, Kd.S_mono (sy_ y.out a.out) (fun _ hk => trivial), hs_ r.out⟩
def impl_copyPart.l0 : Nat → List (S80) → Int → Int → Int → Int → List (S80) → Option (Int × Int × (List (S80)))
 | 0, _, _, _, _, _, _ => none
 | k + 1, x12, x13, x14, x672000, x672001, x672002 => if x14 < x13 then (if 0 ≤ x14 then (if x14 < (x12.length : Int) then ((impl_copyChain.f k ((rd_T80 x12 x14).f0) ((rd_T80 x12 x14).f1)).bind fun bt674 => (if x672002.length < 4398046511104 then (impl_copyPart.l0 k x12 x13 (wrap64 (x14 + 1)) x672000 x672001 (x672002 ++ [(⟨bt674.1, bt674.2⟩ : S80)])) else (none))) else (none)) else (none)) else (some (x672000, x672001, x672002))
def impl_copyPart.f (k : Nat) (a0_0 : Int) (a0_1 : Int) (l0_2 : List (S80)) : Option (Int × Int × (List (S80))) := impl_copyPart.l0 k l0_2 (l0_2.length : Int) 0 a0_0 a0_1 ([] : List (S80))
def impl_copyPart.T5 : Bool × List (List Nat × List Nat) := (true, [([], []), ([0], [0]), ([], []), ([2], [2]), ([3], [3]), ([1, 4, 3], [1, 4]), ([0, 1, 2, 3, 4, 5], []), ([6, 5, 5, 0, 1, 2, 3, 4, 5], [5, 6])])
def impl_copyPart.B5 : List Nat := [0, 1, 0, 4, 12, 31, 63, 127]
theorem impl_copyPart.tab5 : rtab .any (opsOf Tryz.f54 5) = impl_copyPart.T5 := by kernel_rfl
theorem impl_copyPart.bits5 : waitsOk impl_copyPart.T5.2 impl_copyPart.B5 = true := by kernel_rfl
theorem impl_copyPart.calls (k : Nat) (r : Int) (s : Int) (da : Option Addr) (P : Nat) (j : List (S80)) (r1 : Int) (r2 : Int) (r3 : List (S80)) (w : World) (ea : Kd.C k80 w da j.length j) (fa : j.length ≤ P) (h : impl_copyPart.f k r s j = some (r1, r2, r3)) :
  Calls Tryz.prog 54 #[.agg #[.int .i64 r, .int .i64 s, .slice da j.length P]] w fun e w' => ∃ v2_ : Value, e = .returned (.agg #[.int .i64 r1, .int .i64 r2, v2_]) ∧ Kd.S k80 80 w' w.heap.size (fun _ => True) v2_ r3 ∧ Below w.heap.size w w' := by
 have hu26 := Tryz.underlying26
 have hu80 := Tryz.underlying80
 have ta := Aside0.mk ea
 have db := Aside0.mk fa
 clear ea fa
 have A := Aside0.mk (Below.refl w.heap.size w)
 have H : (impl_copyPart.l0 k j (j.length : Int) 0 r s ([] : List (S80))) = some (r1, r2, r3) := h
 clear h
 have H' := Aside0.mk H
 clear H
 go_enter Tryz.func54, Tryz.ntmps54
 go_wp2_with (first | ((with_reducible refine gd_ 1 rfl ?_); refine bv_ 1 #[.int .i64 r, .int .i64 s, .slice da j.length P] 26 ?_; intro ga hg w2 t hb; have c := Aside0.mk (t); have ua := gq_ hg A; replace A := st_ A hb; have eb := Ge_.mk ua.out; clear hb t hg) | ((with_reducible refine gd_ 2 rfl ?_); refine bv_ 2 #[.int .i64 0, .int .i64 0, .slice none 0 0] 26 ?_; intro W hg w3 t hb; have d := Aside0.mk (t); have va := gq_ hg A; replace A := st_ A hb; have fb := Ge_.mk va.out; obtain ⟨G, I, c⟩ := nb_ c hg hb; clear hb t hg; have bc := G.out; have cc := I.out; obtain ⟨dc, ec, fc, gc, hc, ic⟩ := bc3_ c.out) | ((with_reducible refine gd_ 3 rfl ?_); refine bv_ 3 #[.int .i64 0, .int .i64 0, .slice none 0 0] 26 ?_; intro F hg w6 t hb; have b := Aside0.mk (t); have wa := gq_ hg A; replace A := st_ A hb; have gb := Ge_.mk wa.out; obtain ⟨u, x, c⟩ := nb_ c hg hb; obtain ⟨y, z, d⟩ := nb_ d hg hb; clear hb t hg; have jc := x.out; have kc := u.out; have lc := z.out; have mc := y.out; obtain ⟨nc, oc, pc, qc, rc, sc⟩ := bc3_ b.out; obtain ⟨ib, jb, kb, lb, mb, nb⟩ := bc3_ c.out))
 go_loopg [14] k (fun kq ob w' => ∃ (i : Int) (m : List (S80)) (p : Value), ob = .int .i64 i ∧ Aside0 (impl_copyPart.l0 kq j (j.length : Int) i r s m = some (r1, r2, r3)) ∧ Aside0 (kq ≤ k) ∧ Aside0 (Kd.S k80 80 w' w.heap.size (fun _ => True) p m) ∧ Aside0 (w'.heap[ga]? = some (.cells #[.int .i64 r, .int .i64 s, (.slice da j.length P)] 26 (0, 0))) ∧ Aside0 (w'.heap[W]? = some (.cells #[.int .i64 0, .int .i64 0, (.slice none 0 0)] 26 (0, 0))) ∧ Aside0 (w'.heap[F]? = some (.cells #[.int .i64 r, .int .i64 s, p] 26 (0, 0))) ∧ Aside0 (Below w.heap.size w w'))
 case atStart => exact ⟨(0), (([] : List (S80))), (.slice none 0 0), rs_, H', ⟨Nat.le_refl _⟩, ⟨ni_⟩, ⟨bq_ c.out⟩, ⟨bq_ d.out⟩, ⟨bp_ b.out⟩, ⟨hs_ A.out⟩⟩
 case round =>
  clear H'
  obtain ⟨i, m, p, rfl, HA, Ha, a, c, d, b, A⟩ := hrel
  cases gk with
  | zero => exact absurd HA.out (by simp [impl_copyPart.l0])
  | succ k1 =>
   have H := HA.out
   clear HA
   simp only [impl_copyPart.l0] at H
   replace H := ie_ H; rcases H with ⟨ha, H⟩ | ⟨ha, H⟩
   ·
    have xa := decide_eq_true ha
    clear ha
    replace H := id_ H; obtain ⟨rb, H⟩ := H
    replace H := id_ H; obtain ⟨sb, H⟩ := H
    replace H := bi_ H; obtain ⟨⟨Q, R⟩, tb, H⟩ := H; (try dsimp only at H)
    replace H := im_ H; obtain ⟨ya, H⟩ := H
    obtain ⟨ia, hy_⟩ : ∃ y_ : List (S80), y_ = (m ++ [(⟨Q, R⟩ : S80)]) := ⟨_, rfl⟩
    replace H : (impl_copyPart.l0 k1 j (j.length : Int) (wrap64 (i + 1)) r s ia) = some (r1, r2, r3) := hm_
    have za := Aside0.mk hy_; clear hy_
    have H' := Aside0.mk H
    clear H
    obtain ⟨ja, ka⟩ : 0 ≤ (i : Int) ∧ i < (j.length : Int) := pq_
    obtain ⟨Aa, B, D, Ia, E, J, T, U⟩ := at_T80 ta.out i ja ka
    cases Ia
    replace E := c2_ A E J; clear J; obtain ⟨E, J⟩ := E
    have la := Aside0.mk U
    have ma := Aside0.mk T
    clear U T
    replace ja := eq_true ja; replace ka := eq_true ka
    try go_wp2_with (first | ((with_reducible refine gd_ 5 rfl ?_); refine bv_ 5 #[.int .i64 0, .slice none 0 0] 80 ?_; intro q hg ub t hb; replace a := se_ a hg hb; have l := Aside0.mk (t); have Ba := gq_ hg A; replace A := st_ A hb; have vb := Ge_.mk Ba.out; obtain ⟨X, Y, c⟩ := nb_ c hg hb; obtain ⟨Z, aa, d⟩ := nb_ d hg hb; obtain ⟨L, M, b⟩ := nb_ b hg hb; clear hb t hg; have wb := Y.out; have xb := X.out; have yb := aa.out; have zb := Z.out; have Ab := M.out; have Bb := L.out; obtain ⟨Cb, Db, Eb, Fb⟩ := bc2_ l.out))
    generalize hw_ : ((ub.setCell ⟨q, 0, none⟩ (.int .i64 ((rd_T80 j i).f0))).setCell ⟨q, 1, none⟩ (.slice B ((rd_T80 j i).f1).length D)) = ba
    have Ja : Aside0 (Kd.S k80 80 ba w.heap.size (fun k_ => k_ ≠ q) p m) := ⟨by rw [← hw_]; exact (Kd.S_mono (sf_ q a.out (fun _ hk => hk.2)) (fun _ hk => hk.2))⟩
    have Ka : Aside0 (ba.heap[ga]? = some (.cells #[.int .i64 r, .int .i64 s, .slice (some Aa) j.length P] 26 (0, 0))) := ⟨by rw [← hw_]; exact (bq_ c.out)⟩
    have La : Aside0 (ba.heap[W]? = some (.cells #[.int .i64 0, .int .i64 0, .slice none 0 0] 26 (0, 0))) := ⟨by rw [← hw_]; exact (bq_ d.out)⟩
    have Ma : Aside0 (ba.heap[F]? = some (.cells #[.int .i64 r, .int .i64 s, p] 26 (0, 0))) := ⟨by rw [← hw_]; exact (bq_ b.out)⟩
    have Na : Aside0 (ba.heap[q]? = some (.cells #[.int .i64 ((rd_T80 j i).f0), .slice B ((rd_T80 j i).f1).length D] 80 (0, 0))) := ⟨by rw [← hw_]; exact (bp_ l.out)⟩
    have Oa : Aside0 (Below w.heap.size w ba) := ⟨by rw [← hw_]; exact (hs_ A.out)⟩
    clear hw_
    (try clear a)
    (try clear c)
    (try clear d)
    (try clear b)
    (try clear l)
    (try clear A)
    have a := Ja
    have c := Ka
    have d := La
    have b := Ma
    have l := Na
    have A := Oa
    clear Ja Ka La Ma Na Oa
    replace a := Aside0.mk (Kd.S_drew a.out)
    replace c := Aside0.mk (blk_drew c.out)
    replace d := Aside0.mk (blk_drew d.out)
    replace b := Aside0.mk (blk_drew b.out)
    replace l := Aside0.mk (blk_drew l.out)
    replace A := Aside0.mk (bd_ A.out)
    refine start_ (n := 8) (S := fun w' => w'.cell? ⟨F, 0, none⟩ = some (.int .i64 r) ∧ w'.cell? ⟨F, 1, none⟩ = some (.int .i64 s) ∧ w'.cell? ⟨F, 2, none⟩ = some (p) ∧ w'.cell? ⟨q, 0, none⟩ = some (.int .i64 ((rd_T80 j i).f0)) ∧ w'.cell? ⟨q, 1, none⟩ = some (.slice B ((rd_T80 j i).f1).length D)) (ds := [7]) (b_ 0 8) (by kernel_rfl) rfl rfl ⟨bx_ b.out 0, bx_ b.out 1, bx_ b.out 2, bx_ l.out 0, bx_ l.out 1⟩ (fun N => ?_); refine with_tabW impl_copyPart.tab5 impl_copyPart.bits5 (fun V Gb => ?_)
    generalize ba.drew = wc at a c d b l A N ⊢
    refine p_ V ?_
    iterate 2 refine t0_ V Gb N ?_
    refine o1_ 3 (b_ 4 4) V (fun K hK => ?_)
    refine gs_ Tryz.func94 #[.agg #[.int .i64 ((rd_T80 j i).f0), .slice B ((rd_T80 j i).f1).length D]] ?_
    with_reducible refine (impl_copyChain.calls k1 ((rd_T80 j i).f0) _ _ ((rd_T80 j i).f1) Q R _ ?side1 ?side2 tb.out).mono ?_
    (case side1 => exact cp_ ((Kd.C_below la.out A.out)))
    (case side2 => exact ma.out)
    rintro e xc ⟨tc, rfl, Ca, hb⟩
    refine ⟨_, rfl, ?_⟩
    obtain ⟨cb, na⟩ := Kd.S_name Ca
    replace a := su_ na (sp_ a.out) hb
    have ca := sg_ na Ca A
    replace c := bk2_ c hb
    replace d := bk2_ d hb
    replace b := bk2_ b hb
    replace l := bk2_ l hb
    replace A := st_ A hb
    (try clear hb)
    (try clear hk)
    (try clear Ca)
    obtain ⟨Pa, Qa, ra⟩ := Kd.S_slice ca.out
    (first | subst ra | (obtain ⟨rfl, rfl⟩ := si_ ra))
    obtain ⟨Da, pa, O⟩ := Kd.S_fp (Kd.S_types (Kd.S_apart' (ca.out) (Kd.S_typed a.out) (by decide)) l.out (by decide))
    refine ho_ hK (f3_ b.out (e2_ l.out)) (fun N => ?_)
    refine o1_ 4 (b_ 5 3) V (fun K hK => ?_)
    refine value_ (w1 := ?_) (v := ?_) (by rfl) rfl ?_ ?_
    rotate_left 2
    ·
     go_simp
     constructor
     ·
      rfl
     rfl
    refine ho_ hK ⟨(blk_cell (blk_alloc b.out _) 0).trans rfl, (blk_cell (blk_alloc b.out _) 1).trans rfl, (blk_cell (blk_alloc b.out _) 2).trans rfl, (blk_cell (blk_alloc l.out _) 0).trans rfl, (blk_cell (blk_alloc l.out _) 1).trans rfl⟩ (fun N => ?_)
    refine o1_ 5 (b_ 6 2) V (fun K hK => ?_)
    refine Kd.S_append_step k80 (w0 := w) w.heap.size (by rfl) (.tmp 19) (.tmp 22) 24 80 (.agg #[(.int .i64 0), (.slice none 0 0)]) 32 rfl Tryz.underlying24 info80 rfl (by decide) (by omega) p m (⟨Q, R⟩ : S80) [.int .i64 Q, .slice Pa R.length Qa] (fun k_ => k_ ≠ q) (fun k_ => Da k_) rfl rfl ?aP (fun k_ hk_ => ⟨(O k_ hk_).1.2, (O k_ hk_).1.1.2⟩) ?aF ?aO ?aB ?aS ?aL ?_
    (case aP => exact k80_mkM _ _ _ (⟨Q, R⟩ : S80) (Kd.S_mono pa (fun _ h_ => h_)))
    (case aB => exact (hs_ A.out))
    (case aF => exact (fun k_ hk => Kd.freshB (g := q) (o := .cells #[.int .i64 ((rd_T80 j i).f0), .slice B ((rd_T80 j i).f1).length D] 80 (0, 0)) (pb_ l.out) k_ hk))
    (case aO => exact (Kd.S_mono (sp_ a.out) (fun k_ hk => ⟨hk.1, fun e_ => (fun ez_ => Nat.lt_irrefl _ (Nat.lt_of_lt_of_le hk.2 (O _ ez_).1.1.1.2)) e_⟩)))
    (case aS => exact (below_size (hs_ A.out)))
    (case aL => have := ya.out; omega)
    intro uc Hb ho hb hg hat
    rw [← za.out] at ho
    replace c := Aside0.mk (blk_grown (bq_ c.out) hg (Kd.S_ne a.out c.out (by decide)))
    replace d := Aside0.mk (blk_grown (bq_ d.out) hg (Kd.S_ne a.out d.out (by decide)))
    replace b := Aside0.mk (blk_grown (bq_ b.out) hg (Kd.S_ne a.out b.out (by decide)))
    replace l := Aside0.mk (blk_grown (bq_ l.out) hg (Kd.S_away a.out (fun _ hk => hk.1)))
    replace A := Aside0.mk (hb)
    have oa := Aside0.mk (ho)
    clear a ca
    clear ho hb hg hat
    obtain ⟨Ra, Sa, sa⟩ := Kd.S_slice oa.out
    (first | subst sa | (obtain ⟨rfl, rfl⟩ := si_ sa))
    refine ho_ hK (f3_ b.out (e2_ l.out)) (fun N => ?_)
    refine p_ V ?_
    refine l1_ 7 (b_ 8 0) V (fun K hK => ?_)
    have vc : Hb.cell? ⟨F, 2, none⟩ = some (p) := bx_ b.out 2
    have Ib := blk_frozen b.out 2
    have Ta := u.out
    have Ua := y.out
    have Va := M.out
    have Wa := x.out
    have Xa := z.out
    have Ya := L.out
    refine skip_ (w1 := ?_) (by rfl) rfl ?_ ?_
    rotate_left
    ·
     go_simp
     rfl
    refine hK.out _ _ ?_
    clear hK K
    refine done_ (done_of V.out (by kernel_rfl)) ?_
    try go_wp2
    go_roundg k1
    case measure => have := Ha.out; omega
    case rel => exact ⟨(wrap64 (i + 1)), (ia), (.slice Ra ia.length Sa), rs_, H', ⟨by have := Ha.out; omega⟩, ⟨Kd.S_mono (sy_ oa.out b.out) (fun _ hk => trivial)⟩, ⟨bq_ c.out⟩, ⟨bq_ d.out⟩, ⟨bp_ b.out⟩, ⟨hs_ A.out⟩⟩
   have xa : decide (i < (j.length : Int)) = false := decide_eq_false ha
   clear ha
   simp only [Option.some.injEq, Prod.mk.injEq] at H
   obtain ⟨rfl, rfl, rfl⟩ := H
   have Jb := x.out
   have Kb := u.out
   have Lb := z.out
   have Mb := y.out
   obtain ⟨Nb, Ob, Pb, Qb, Rb, Sb⟩ := bc3_ b.out
   have Tb := I.out
   have Ub := G.out
   obtain ⟨Vb, Wb, Xb, Yb, Zb, ac⟩ := bc3_ d.out
   obtain ⟨Za, ab, bb⟩ := Kd.S_slice a.out
   subst bb
   go_wp2
   refine bodyPost_ret (results_cell_row rfl _ _ W 26 #[.int .i64 r, .int .i64 s, .slice Za m.length ab] (0, 0) _ rfl (bp_ d.out) Tryz.underlying26 rfl (by kernel_rfl)) rfl ?_
   exact ⟨_, rr_, Kd.S_mono (sy_ a.out d.out) (fun _ hk => trivial), hs_ A.out⟩
def impl_Sum.l0 : Nat → ByteArray → Int → Int → Option (Int)
 | 0, _, _, _ => none
 | k + 1, x0, x3, x4 => if x4 < (x0.size : Int) then (if 0 ≤ x4 then (impl_Sum.l0 k x0 (((Go.bits .xor .u32 x3 ((bt x0 x4) % 4294967296)) * 16777619) % 4294967296) (wrap64 (x4 + 1))) else (none)) else (some (wrap64 (x3)))
def impl_Sum.f (k : Nat) (a0 : ByteArray) : Option (Int) := impl_Sum.l0 k a0 2166136261 0
theorem impl_Sum.calls (k : Nat) (c : ByteArray) (r : Int) (w : World) (h : impl_Sum.f k c = some r) :
  Calls Tryz.prog 95 #[.string c] w fun e w' => e = .returned (.int .i64 r) ∧ Drawn0 w w' := by
 have H : (impl_Sum.l0 k c 2166136261 0) = some r := h
 clear h
 have H' := Aside0.mk H
 clear H
 go_enter Tryz.func95, Tryz.ntmps95
 go_wp2
 go_loopg [3, 4] k (fun kq o p w' => ∃ (b : Int) (a : Int), o = .int .u32 b ∧ p = .int .i64 a ∧ Aside0 (impl_Sum.l0 kq c b a = some r) ∧ Aside0 (kq ≤ k) ∧ Drawn0 w w')
 case atStart => exact ⟨(2166136261), (0), rs_, rs_, H', ⟨Nat.le_refl _⟩, by repeat (first | exact Drawn0.refl _ | apply Drawn0.step)⟩
 case round =>
  clear H'
  obtain ⟨b, a, rfl, rfl, j, d, ⟨m1, rfl⟩⟩ := hrel
  cases gk with
  | zero => exact absurd j.out (by simp [impl_Sum.l0])
  | succ q =>
   have H := j.out
   clear j
   simp only [impl_Sum.l0] at H
   replace H := ie_ H; rcases H with ⟨g, H⟩ | ⟨g, H⟩
   ·
    have i := decide_eq_true g
    clear g
    replace H := id_ H; obtain ⟨l, H⟩ := H
    have H' := Aside0.mk H
    clear H
    obtain ⟨m, n⟩ : 0 ≤ (a : Int) ∧ a < (c.size : Int) := pq_
    have s := bt_at c a
    replace m := eq_true m; replace n := eq_true n
    go_wp2
    go_roundg q
    case measure => have := d.out; omega
    case rel => exact ⟨(((Go.bits .xor .u32 b ((bt c a) % 4294967296)) * 16777619) % 4294967296), (wrap64 (a + 1)), rs_, rs_, H', ⟨by have := d.out; omega⟩, by repeat (first | exact Drawn0.refl _ | apply Drawn0.step)⟩
   have i : decide (a < (c.size : Int)) = false := decide_eq_false g
   clear g
   obtain rfl := Option.some.inj H
   go_wp2
   go_ret
   exact ⟨by first | rfl | (simp; done) | (simp [*]; done), by repeat (first | exact Drawn0.refl _ | apply Drawn0.step)⟩
def impl_PlainOk.l0 : Nat → ByteArray → Int → Option (Bool)
 | 0, _, _ => none
 | k + 1, x0, x3 => if x3 < (x0.size : Int) then (if 0 ≤ x3 then (if (bt x0 x3) < 32 then (some false) else (if (bt x0 x3) > 126 then (some false) else (if (bt x0 x3) = 34 then (some false) else (if (bt x0 x3) = 92 then (some false) else (impl_PlainOk.l0 k x0 (wrap64 (x3 + 1))))))) else (none)) else (some true)
def impl_PlainOk.f (k : Nat) (a0 : ByteArray) : Option (Bool) := if (a0.size : Int) > 12 then (some false) else (impl_PlainOk.l0 k a0 0)
theorem impl_PlainOk.calls (k : Nat) (b : ByteArray) (r : Bool) (w : World) (h : impl_PlainOk.f k b = some r) :
  Calls Tryz.prog 121 #[.string b] w fun e w' => e = .returned (.bool r) ∧ Drawn0 w w' := by
 have H : (if (b.size : Int) > 12 then (some false) else (impl_PlainOk.l0 k b 0)) = some r := h
 clear h
 replace H := ie_ H; rcases H with ⟨l, H⟩ | ⟨l, H⟩
 ·
  have m : decide (12 < (b.size : Int)) = true := decide_eq_true l
  have n : decide (12 < b.size) = true := decide_eq_true (by omega)
  clear l
  obtain rfl := Option.some.inj H
  go_enter Tryz.func121, Tryz.ntmps121
  go_wp2
  go_ret
  exact ⟨by first | rfl | (simp; done) | (simp [*]; done), by repeat (first | exact Drawn0.refl _ | apply Drawn0.step)⟩
 have m : decide (12 < (b.size : Int)) = false := decide_eq_false l
 have n : decide (12 < b.size) = false := decide_eq_false (by omega)
 clear l
 have H' := Aside0.mk H
 clear H
 go_enter Tryz.func121, Tryz.ntmps121
 go_wp2
 go_loopg [3] k (fun kq D w' => ∃ (a : Int), D = .int .i64 a ∧ Aside0 (impl_PlainOk.l0 kq b a = some r) ∧ Aside0 (kq ≤ k) ∧ Drawn0 w w')
 case atStart => exact ⟨(0), rs_, H', ⟨Nat.le_refl _⟩, by repeat (first | exact Drawn0.refl _ | apply Drawn0.step)⟩
 case round =>
  clear H'
  obtain ⟨a, rfl, B, o, ⟨m1, rfl⟩⟩ := hrel
  cases gk with
  | zero => exact absurd B.out (by simp [impl_PlainOk.l0])
  | succ E =>
   have H := B.out
   clear B
   simp only [impl_PlainOk.l0] at H
   replace H := ie_ H; rcases H with ⟨p, H⟩ | ⟨p, H⟩
   ·
    have q := decide_eq_true p
    clear p
    replace H := id_ H; obtain ⟨C, H⟩ := H
    replace H := ie_ H; rcases H with ⟨s, H⟩ | ⟨s, H⟩
    ·
     have t := decide_eq_true s
     clear s
     obtain rfl := Option.some.inj H
     obtain ⟨c, d⟩ : 0 ≤ (a : Int) ∧ a < (b.size : Int) := pq_
     have g := bt_at b a
     replace c := eq_true c; replace d := eq_true d
     go_wp2
     go_ret
     exact ⟨by first | rfl | (simp; done) | (simp [*]; done), by repeat (first | exact Drawn0.refl _ | apply Drawn0.step)⟩
    have t : decide ((bt b a) < 32) = false := decide_eq_false s
    clear s
    replace H := ie_ H; rcases H with ⟨u, H⟩ | ⟨u, H⟩
    ·
     have v : decide (126 < (bt b a)) = true := decide_eq_true u
     clear u
     obtain rfl := Option.some.inj H
     obtain ⟨c, d⟩ : 0 ≤ (a : Int) ∧ a < (b.size : Int) := pq_
     have g := bt_at b a
     replace c := eq_true c; replace d := eq_true d
     go_wp2
     go_ret
     exact ⟨by first | rfl | (simp; done) | (simp [*]; done), by repeat (first | exact Drawn0.refl _ | apply Drawn0.step)⟩
    have v : decide (126 < (bt b a)) = false := decide_eq_false u
    clear u
    replace H := ie_ H; rcases H with ⟨i, H⟩ | ⟨i, H⟩
    ·
     have x : ((bt b a) == 34) = true := beq_iff_eq.mpr i
     have y : ((bt b a) != 34) = false := bne_eq_false_iff_eq.mpr i
     clear i
     obtain rfl := Option.some.inj H
     obtain ⟨c, d⟩ : 0 ≤ (a : Int) ∧ a < (b.size : Int) := pq_
     have g := bt_at b a
     replace c := eq_true c; replace d := eq_true d
     go_wp2
     go_ret
     exact ⟨by first | rfl | (simp; done) | (simp [*]; done), by repeat (first | exact Drawn0.refl _ | apply Drawn0.step)⟩
    have x : ((bt b a) == 34) = false := beq_eq_false_iff_ne.mpr i
    have y : ((bt b a) != 34) = true := bne_iff_ne.mpr i
    replace H := ie_ H; rcases H with ⟨j, H⟩ | ⟨j, H⟩
    ·
     have z : ((bt b a) == 92) = true := beq_iff_eq.mpr j
     have A : ((bt b a) != 92) = false := bne_eq_false_iff_eq.mpr j
     clear j
     obtain rfl := Option.some.inj H
     obtain ⟨c, d⟩ : 0 ≤ (a : Int) ∧ a < (b.size : Int) := pq_
     have g := bt_at b a
     replace c := eq_true c; replace d := eq_true d
     go_wp2
     go_ret
     exact ⟨by first | rfl | (simp; done) | (simp [*]; done), by repeat (first | exact Drawn0.refl _ | apply Drawn0.step)⟩
    have z : ((bt b a) == 92) = false := beq_eq_false_iff_ne.mpr j
    have A : ((bt b a) != 92) = true := bne_iff_ne.mpr j
    have H' := Aside0.mk H
    clear H
    obtain ⟨c, d⟩ : 0 ≤ (a : Int) ∧ a < (b.size : Int) := pq_
    have g := bt_at b a
    replace c := eq_true c; replace d := eq_true d
    go_wp2
    go_roundg E
    case measure => have := o.out; omega
    case rel => exact ⟨(wrap64 (a + 1)), rs_, H', ⟨by have := o.out; omega⟩, by repeat (first | exact Drawn0.refl _ | apply Drawn0.step)⟩
   have q : decide (a < (b.size : Int)) = false := decide_eq_false p
   clear p
   obtain rfl := Option.some.inj H
   go_wp2
   go_ret
   exact ⟨by first | rfl | (simp; done) | (simp [*]; done), by repeat (first | exact Drawn0.refl _ | apply Drawn0.step)⟩
end Go.Proofs.YtanfohlpkppeiaaGreat.Print
end
