import Derived.Test.YtanfohlpkppeiaaGreatMFnStores1
import Derived.Test.YtanfohlpkppeiaaGreatMFnStores2
import Derived.Laws.Cover1
import Derived.Shelf.Strings.Builder1
import Derived.Shelf.Strings.Builder2
import Derived.Shelf.Strings.OnBuilder
import Derived.Ground.GgsProg
import Derived.Shelf.GgSortFunc.Insertion
import Derived.Shelf.GgSortFunc.Tiny
import Derived.Shelf.GgSortFunc.Compose
import Derived.Ground.GgtProg
import Derived.Shelf.GgSortMore.Stable
import Derived.Test.YtanfohlpkppeiaaGreatProg
import Derived.Sort.LotA
section
namespace Go.Proofs.YtanfohlpkppeiaaGreat.Print
open Go.RowKit Go.Proofs.YtanfohlpkppeiaaGreatV.PrintWords Go.Proofs.YtanfohlpkppeiaaGreatV.PrintLast Go.Proofs.YtanfohlpkppeiaaGreatV.PrintMore
attribute [local go_sem] max2_int min2_int max_two min_two max_three min_three max_four min_four
set_option linter.unusedVariables false
set_option linter.unusedSimpArgs false
set_option maxHeartbeats 8000000
set_option maxRecDepth 100000
def impl_in.f (a0 : Int) (a1 : Int) (a2 : Int) : Option (Bool) := if a0 ≥ a1 then (some (decide (a0 ≤ a2))) else (some false)
theorem impl_in.calls (a : Int) (b : Int) (g : Int) (r : Bool) (w : World) (h : impl_in.f a b g = some r) :
  Calls Tryz.prog 75 #[.int .i64 a, .int .i64 b, .int .i64 g] w fun e w' => e = .returned (.bool r) ∧ Drawn0 w w' := by
 have H : (if a ≥ b then (some (decide (a ≤ g))) else (some false)) = some r := h
 clear h
 replace H := ie_ H; rcases H with ⟨c, H⟩ | ⟨c, H⟩
 ·
  have d : decide (b ≤ a) = true := decide_eq_true c
  clear c
  obtain rfl := Option.some.inj H
  go_enter Tryz.func75, Tryz.ntmps75
  go_wp2
  go_ret
  exact ⟨by first | rfl | (simp; done) | (simp [*]; done), by repeat (first | exact Drawn0.refl _ | apply Drawn0.step)⟩
 have d : decide (b ≤ a) = false := decide_eq_false c
 clear c
 obtain rfl := Option.some.inj H
 go_enter Tryz.func75, Tryz.ntmps75
 go_wp2
 go_ret
 exact ⟨by first | rfl | (simp; done) | (simp [*]; done), by repeat (first | exact Drawn0.refl _ | apply Drawn0.step)⟩
def impl_NameOk.l0 : Nat → ByteArray → Int → Option (Bool)
 | 0, _, _ => none
 | k + 1, x0, x3 => if x3 < (x0.size : Int) then (if 0 ≤ x3 then (if (bt x0 x3) < 97 then (some false) else (if (bt x0 x3) > 122 then (some false) else (impl_NameOk.l0 k x0 (wrap64 (x3 + 1))))) else (none)) else (some true)
def impl_NameOk.f (k : Nat) (a0 : ByteArray) : Option (Bool) := (impl_in.f (a0.size : Int) 1 8).bind fun t681 => (if t681 = true then (impl_NameOk.l0 k a0 0) else (some false))
theorem impl_NameOk.calls (k : Nat) (b : ByteArray) (r : Bool) (w : World) (h : impl_NameOk.f k b = some r) :
  Calls Tryz.prog 150 #[.string b] w fun e w' => e = .returned (.bool r) ∧ Drawn0 w w' := by
 have H : ((impl_in.f (b.size : Int) 1 8).bind fun c => (if c = true then (impl_NameOk.l0 k b 0) else (some false))) = some r := h
 clear h
 replace H := bi_ H; obtain ⟨c, x, H⟩ := H
 replace H := ib_ H; rcases H with ⟨rfl, H⟩ | ⟨rfl, H⟩
 ·
  have H' := Aside0.mk H
  clear H
  go_enter Tryz.func150, Tryz.ntmps150
  go_wp2_with (first | ((with_reducible refine gate_callee (f := 75) rfl ?_); refine gl_ (some 6) Tryz.func75 #[.int .i64 (b.size : Int), .int .i64 1, .int .i64 8] ?_; (with_reducible refine (impl_in.calls (b.size : Int) 1 8 true _ x.out).mono ?_); rintro e w' ⟨rfl, ⟨z, rfl⟩⟩; refine ⟨_, rfl, ?_⟩))
  go_loopg [3] k (fun kq A w' => ∃ (a : Int), A = .int .i64 a ∧ Aside0 (impl_NameOk.l0 kq b a = some r) ∧ Aside0 (kq ≤ k) ∧ Drawn0 w w')
  case atStart => exact ⟨(0), rs_, H', ⟨Nat.le_refl _⟩, by repeat (first | exact Drawn0.refl _ | apply Drawn0.step)⟩
  case round =>
   clear H'
   obtain ⟨a, rfl, u, i, ⟨m1, rfl⟩⟩ := hrel
   cases gk with
   | zero => exact absurd u.out (by simp [impl_NameOk.l0])
   | succ B =>
    have H := u.out
    clear u
    simp only [impl_NameOk.l0] at H
    replace H := ie_ H; rcases H with ⟨j, H⟩ | ⟨j, H⟩
    ·
     have l := decide_eq_true j
     clear j
     replace H := id_ H; obtain ⟨y, H⟩ := H
     replace H := ie_ H; rcases H with ⟨m, H⟩ | ⟨m, H⟩
     ·
      have n := decide_eq_true m
      clear m
      obtain rfl := Option.some.inj H
      obtain ⟨d, g⟩ : 0 ≤ (a : Int) ∧ a < (b.size : Int) := pq_
      have o := bt_at b a
      replace d := eq_true d; replace g := eq_true g
      go_wp2
      go_ret
      exact ⟨by first | rfl | (simp; done) | (simp [*]; done), by repeat (first | exact Drawn0.refl _ | apply Drawn0.step)⟩
     have n : decide ((bt b a) < 97) = false := decide_eq_false m
     clear m
     replace H := ie_ H; rcases H with ⟨p, H⟩ | ⟨p, H⟩
     ·
      have q : decide (122 < (bt b a)) = true := decide_eq_true p
      clear p
      obtain rfl := Option.some.inj H
      obtain ⟨d, g⟩ : 0 ≤ (a : Int) ∧ a < (b.size : Int) := pq_
      have o := bt_at b a
      replace d := eq_true d; replace g := eq_true g
      obtain ⟨s, t⟩ : 0 ≤ (a : Int) ∧ a < (b.size : Int) := pq_
      have v := bt_at b a
      replace s := eq_true s; replace t := eq_true t
      go_wp2
      go_ret
      exact ⟨by first | rfl | (simp; done) | (simp [*]; done), by repeat (first | exact Drawn0.refl _ | apply Drawn0.step)⟩
     have q : decide (122 < (bt b a)) = false := decide_eq_false p
     clear p
     have H' := Aside0.mk H
     clear H
     obtain ⟨d, g⟩ : 0 ≤ (a : Int) ∧ a < (b.size : Int) := pq_
     have o := bt_at b a
     replace d := eq_true d; replace g := eq_true g
     obtain ⟨s, t⟩ : 0 ≤ (a : Int) ∧ a < (b.size : Int) := pq_
     have v := bt_at b a
     replace s := eq_true s; replace t := eq_true t
     go_wp2
     go_roundg B
     case measure => have := i.out; omega
     case rel => exact ⟨(wrap64 (a + 1)), rs_, H', ⟨by have := i.out; omega⟩, by repeat (first | exact Drawn0.refl _ | apply Drawn0.step)⟩
    have l : decide (a < (b.size : Int)) = false := decide_eq_false j
    clear j
    obtain rfl := Option.some.inj H
    go_wp2
    go_ret
    exact ⟨by first | rfl | (simp; done) | (simp [*]; done), by repeat (first | exact Drawn0.refl _ | apply Drawn0.step)⟩
 obtain rfl := Option.some.inj H
 go_enter Tryz.func150, Tryz.ntmps150
 go_wp2_with (first | ((with_reducible refine gate_callee (f := 75) rfl ?_); refine gl_ (some 6) Tryz.func75 #[.int .i64 (b.size : Int), .int .i64 1, .int .i64 8] ?_; (with_reducible refine (impl_in.calls (b.size : Int) 1 8 false _ x.out).mono ?_); rintro e w' ⟨rfl, ⟨z, rfl⟩⟩; refine ⟨_, rfl, ?_⟩))
 go_ret
 exact ⟨by first | rfl | (simp; done) | (simp [*]; done), by repeat (first | exact Drawn0.refl _ | apply Drawn0.step)⟩
def impl_LabelOk.f (k : Nat) (a0_0 : ByteArray) (a0_1 : ByteArray) : Option (Bool) := (impl_NameOk.f k a0_0).bind fun t683 => (if t683 = true then ((impl_PlainOk.f k a0_1).bind fun t684 => (some t684)) else (some false))
theorem impl_LabelOk.calls (k : Nat) (a : ByteArray) (b : ByteArray) (r : Bool) (w : World) (h : impl_LabelOk.f k a b = some r) :
  Calls Tryz.prog 132 #[.agg #[.string a, .string b]] w fun e w' => e = .returned (.bool r) ∧ Below w.heap.size w w' := by
 have hu99 := Tryz.underlying99
 have l := Aside0.mk (Below.refl w.heap.size w)
 have H : ((impl_NameOk.f k a).bind fun d => (if d = true then ((impl_PlainOk.f k b).bind fun c => (some c)) else (some false))) = some r := h
 clear h
 replace H := bi_ H; obtain ⟨d, o, H⟩ := H
 have AHz_ := Aside0.mk H
 clear H
 go_enter Tryz.func132, Tryz.ntmps132
 go_wp2_with (first | (((with_reducible refine gd_ 1 rfl ?_); refine bv_ 1 #[.string a, .string b] 99 ?_; intro m hg x g hb; have i := Aside0.mk (g); have j := gq_ hg l; replace l := st_ l hb; have n := Ge_.mk j.out; clear hb g hg; obtain ⟨p, q, s, t⟩ := bc2_ i.out); refine Aside0.out ?_))
 have H := AHz_.out
 clear AHz_
 replace H := ib_ H; rcases H with ⟨rfl, H⟩ | ⟨rfl, H⟩
 ·
  replace H := bi_ H; obtain ⟨c, v, H⟩ := H
  obtain rfl := Option.some.inj H
  refine ⟨?_⟩
  go_wp2_with (first | ((with_reducible refine gate_callee (f := 150) rfl ?_); refine gl_ (some 5) Tryz.func150 #[.string a] ?_; (with_reducible refine (impl_NameOk.calls k a true _ o.out).mono ?_); rintro e w' ⟨rfl, ⟨u, rfl⟩⟩; refine ⟨_, rfl, ?_⟩) | (go_at_call 121; (with_reducible refine (impl_PlainOk.calls k b c _ v.out).mono ?_); rintro e w' ⟨rfl, ⟨u, rfl⟩⟩))
  go_ret
  exact an_ (hs_ l.out)
 obtain rfl := Option.some.inj H
 refine ⟨?_⟩
 go_wp2_with (first | ((with_reducible refine gate_callee (f := 150) rfl ?_); refine gl_ (some 5) Tryz.func150 #[.string a] ?_; (with_reducible refine (impl_NameOk.calls k a false _ o.out).mono ?_); rintro e w' ⟨rfl, ⟨u, rfl⟩⟩; refine ⟨_, rfl, ?_⟩))
 go_ret
 exact an_ (hs_ l.out)
def impl_SetOk.l0 : Nat → List (S99) → List (S99) → Int → Int → Option (Bool)
 | 0, _, _, _, _ => none
 | k + 1, x0, x5, x6, x7 => if x7 < x6 then (if 0 ≤ x7 then (if x7 < (x5.length : Int) then (if x7 ≥ 4 then (some false) else ((impl_LabelOk.f k ((rd_T99 x5 x7).f0) ((rd_T99 x5 x7).f1)).bind fun t687 => (if t687 = true then (if x7 > 0 then (if 0 ≤ (wrap64 (x7 - 1)) then (if (wrap64 (x7 - 1)) < (x0.length : Int) then (if ((Op.bytesLess (((rd_T99 x0 (wrap64 (x7 - 1))).f0).toList) (((rd_T99 x5 x7).f0).toList)) = true) then (impl_SetOk.l0 k x0 x5 x6 (wrap64 (x7 + 1))) else (some false)) else (none)) else (none)) else (impl_SetOk.l0 k x0 x5 x6 (wrap64 (x7 + 1)))) else (some false)))) else (none)) else (none)) else (some true)
def impl_SetOk.f (k : Nat) (l0 : List (S99)) : Option (Bool) := impl_SetOk.l0 k l0 l0 (l0.length : Int) 0
def impl_SetOk.T4 : Bool × List (List Nat × List Nat) := (true, [([], []), ([0], [0]), ([1], [1]), ([2], [2]), ([3, 2, 2], [2, 3]), ([4, 2], [2, 4]), ([2, 5], [2, 5]), ([6, 4], [6]), ([7], [7]), ([8, 7], [7, 8]), ([9, 7, 7], [7, 9]), ([10], [10]), ([10], [10]), ([12, 10], [10, 12]), ([11, 13, 10], [10, 11, 13]), ([14, 10], [10, 14]), ([15, 10], [10, 15]), ([10], [10]), ([17, 10], [10, 17]), ([16, 18, 10], [10, 16, 18]), ([10, 19, 7], [7, 10, 19]), ([7, 20], [7, 20])])
def impl_SetOk.B4 : List Nat := [0, 1, 3, 7, 15, 31, 63, 127, 255, 511, 1023, 2047, 2047, 6143, 16383, 32767, 65535, 2047, 133119, 524287, 1048575, 2097151]
theorem impl_SetOk.tab4 : rtab .any (opsOf Tryz.f116 4) = impl_SetOk.T4 := by kernel_rfl
theorem impl_SetOk.bits4 : waitsOk impl_SetOk.T4.2 impl_SetOk.B4 = true := by kernel_rfl
theorem impl_SetOk.calls (k : Nat) (A0 : Option Addr) (c0 : Nat) (l0 : List (S99)) (r : Bool) (w : World) (aa : Kd.C k99 w A0 l0.length l0) (ba : l0.length ≤ c0) (h : impl_SetOk.f k l0 = some r) :
  Calls Tryz.prog 116 #[.slice A0 l0.length c0] w fun e w' => e = .returned (.bool r) ∧ Below w.heap.size w w' := by
 have hu99 := Tryz.underlying99
 have J := Aside0.mk aa
 have Oa := Aside0.mk ba
 clear aa ba
 have m := Aside0.mk (Below.refl w.heap.size w)
 have H : (impl_SetOk.l0 k l0 l0 (l0.length : Int) 0) = some r := h
 clear h
 have H' := Aside0.mk H
 clear H
 go_enter Tryz.func116, Tryz.ntmps116
 go_wp2
 go_loopg [7] k (fun kq v7 w' => ∃ (b : Int), v7 = .int .i64 b ∧ Aside0 (impl_SetOk.l0 kq l0 l0 (l0.length : Int) b = some r) ∧ Aside0 (kq ≤ k) ∧ Aside0 (Below w.heap.size w w'))
 case atStart => exact ⟨(0), rs_, H', ⟨Nat.le_refl _⟩, ⟨hs_ m.out⟩⟩
 case round =>
  clear H'
  obtain ⟨b, rfl, HA, Q, m⟩ := hrel
  cases gk with
  | zero => exact absurd HA.out (by simp [impl_SetOk.l0])
  | succ R =>
   have H := HA.out
   clear HA
   simp only [impl_SetOk.l0] at H
   replace H := ie_ H; rcases H with ⟨c2, H⟩ | ⟨c2, H⟩
   ·
    have da := decide_eq_true c2
    clear c2
    replace H := id_ H; obtain ⟨Ha, H⟩ := H
    replace H := id_ H; obtain ⟨Ia, H⟩ := H
    replace H := ie_ H; rcases H with ⟨c5, H⟩ | ⟨c5, H⟩
    ·
     have fa : decide (4 ≤ b) = true := decide_eq_true c5
     clear c5
     obtain rfl := Option.some.inj H
     obtain ⟨q, s⟩ : 0 ≤ (b : Int) ∧ b < (l0.length : Int) := pq_
     obtain ⟨v, z, c, d⟩ := at_T99 J.out b q s
     cases z
     replace c := c2_ m c d; clear d; obtain ⟨c, d⟩ := c
     replace q := eq_true q; replace s := eq_true s
     try go_wp2_with (first | ((with_reducible refine gd_ 4 rfl ?_); refine bv_ 4 #[.string (⟨#[]⟩ : ByteArray), .string (⟨#[]⟩ : ByteArray)] 99 ?_; intro g hg w6 x hb; have a := Aside0.mk (x); have y := gq_ hg m; replace m := st_ m hb; have I := Ge_.mk y.out; clear hb x hg; obtain ⟨Ja, Ka, La, Ma⟩ := bc2_ a.out))
     generalize hw_ : ((w6.setCell ⟨g, 0, none⟩ (.string ((rd_T99 l0 b).f0))).setCell ⟨g, 1, none⟩ (.string ((rd_T99 l0 b).f1))) = w8
     have A : Aside0 (w8.heap[g]? = some (.cells #[.string ((rd_T99 l0 b).f0), .string ((rd_T99 l0 b).f1)] 99 (0, 0))) := ⟨by rw [← hw_]; exact (bp_ a.out)⟩
     have B : Aside0 (Below w.heap.size w w8) := ⟨by rw [← hw_]; exact (hs_ m.out)⟩
     clear hw_
     (try clear a)
     (try clear m)
     have a := A
     have m := B
     clear A B
     replace a := Aside0.mk (blk_drew a.out)
     replace m := Aside0.mk (bd_ m.out)
     refine start_ (n := 22) (S := fun w' => True) (ds := []) (b_ 0 22) (by kernel_rfl) rfl rfl trivial (fun i => ?_); refine with_tabW impl_SetOk.tab4 impl_SetOk.bits4 (fun j D => ?_)
     generalize w8.drew = w9 at a m i ⊢
     iterate 3 refine p_ j ?_
     iterate 3 refine v_ j ?_
     iterate 2 refine p_ j ?_
     iterate 13 refine v_ j ?_
     refine p_ j ?_
     refine done_ (done_of j.out (by kernel_rfl)) ?_
     try go_wp2
     go_ret
     exact an_ (hs_ m.out)
    have fa : decide (4 ≤ b) = false := decide_eq_false c5
    clear c5
    replace H := bi_ H; obtain ⟨Na, M, H⟩ := H
    replace H := ib_ H; rcases H with ⟨rfl, H⟩ | ⟨rfl, H⟩
    ·
     replace H := ie_ H; rcases H with ⟨N, H⟩ | ⟨N, H⟩
     ·
      have T : decide (0 < b) = true := decide_eq_true N
      clear N
      obtain ⟨p, E⟩ : ∃ j_ : Int, (wrap64 (b - 1)) = j_ := ⟨_, rfl⟩
      replace H : (if 0 ≤ (p) then (if (p) < (l0.length : Int) then (if ((Op.bytesLess (((rd_T99 l0 (p)).f0).toList) (((rd_T99 l0 b).f0).toList)) = true) then (impl_SetOk.l0 R l0 l0 (l0.length : Int) (wrap64 (b + 1))) else (some false)) else (none)) else (none)) = some r := by first | (rw [E] at H; exact H) | (simp only [E] at H ⊢; exact H)
      (try rw [E] at M)
      have ga : (IntKind.i64.wrap (b - 1)) = p := (i64_w _).trans E
      replace H := id_ H; obtain ⟨ja, H⟩ := H
      replace H := id_ H; obtain ⟨ka, H⟩ := H
      replace H := ie_ H; rcases H with ⟨O, H⟩ | ⟨O, H⟩
      ·
       have U : (Op.bytesLess (((rd_T99 l0 (p)).f0).toList) (((rd_T99 l0 b).f0).toList)) = true := O
       clear O
       have H' := Aside0.mk H
       clear H
       obtain ⟨q, s⟩ : 0 ≤ (b : Int) ∧ b < (l0.length : Int) := pq_
       obtain ⟨v, z, c, d⟩ := at_T99 J.out b q s
       cases z
       replace c := c2_ m c d; clear d; obtain ⟨c, d⟩ := c
       replace q := eq_true q; replace s := eq_true s
       try go_wp2_with (first | ((with_reducible refine gd_ 4 rfl ?_); refine bv_ 4 #[.string (⟨#[]⟩ : ByteArray), .string (⟨#[]⟩ : ByteArray)] 99 ?_; intro g hg la x hb; have a := Aside0.mk (x); have y := gq_ hg m; replace m := st_ m hb; have I := Ge_.mk y.out; clear hb x hg; obtain ⟨ma, na, oa, pa⟩ := bc2_ a.out))
       generalize hw_ : ((la.setCell ⟨g, 0, none⟩ (.string ((rd_T99 l0 b).f0))).setCell ⟨g, 1, none⟩ (.string ((rd_T99 l0 b).f1))) = V
       have A : Aside0 (V.heap[g]? = some (.cells #[.string ((rd_T99 l0 b).f0), .string ((rd_T99 l0 b).f1)] 99 (0, 0))) := ⟨by rw [← hw_]; exact (bp_ a.out)⟩
       have B : Aside0 (Below w.heap.size w V) := ⟨by rw [← hw_]; exact (hs_ m.out)⟩
       clear hw_
       (try clear a)
       (try clear m)
       have a := A
       have m := B
       clear A B
       replace a := Aside0.mk (blk_drew a.out)
       replace m := Aside0.mk (bd_ m.out)
       obtain ⟨F, G⟩ : 0 ≤ ((p) : Int) ∧ (p) < (l0.length : Int) := pq_
       obtain ⟨L, P, l, o⟩ := at_T99 J.out (p) F G
       have t := o
       have u := l
       obtain rfl : v = L := (by injection P)
       replace l := c2_ m l o; clear o; obtain ⟨l, o⟩ := l
       replace F := eq_true F; replace G := eq_true G
       refine start_ (n := 22) (S := fun w' => w'.cell? ⟨g, 0, none⟩ = some (.string ((rd_T99 l0 b).f0)) ∧ w'.cell? ⟨g, 1, none⟩ = some (.string ((rd_T99 l0 b).f1)) ∧ w'.cell? (v.add (((p)).toNat * 2)) = some (.string ((rd_T99 l0 (p)).f0)) ∧ w'.cell? ⟨(v.add (((p)).toNat * 2)).block, (v.add (((p)).toNat * 2)).off + 1, none⟩ = some (.string ((rd_T99 l0 (p)).f1))) (ds := []) (b_ 0 22) (by kernel_rfl) rfl rfl ⟨bx_ a.out 0, bx_ a.out 1, ((m.out.cell (World.block_lt_of_cell? w _ u)).trans u), ((m.out.cell (World.block_lt_of_cell? w _ t)).trans t)⟩ (fun i => ?_); refine with_tabW impl_SetOk.tab4 impl_SetOk.bits4 (fun j D => ?_)
       generalize V.drew = Ra at a m l o i ⊢
       iterate 3 refine p_ j ?_
       refine t0_ j D i ?_
       refine o1_ 4 (b_ 5 17) j (fun K W => ?_)
       refine gs_ Tryz.func132 #[.agg #[.string ((rd_T99 l0 b).f0), .string ((rd_T99 l0 b).f1)]] ?_
       with_reducible refine (impl_LabelOk.calls R ((rd_T99 l0 b).f0) ((rd_T99 l0 b).f1) true _ M.out).mono ?_
       rintro e Sa ⟨rfl, hb⟩
       refine ⟨_, rfl, ?_⟩
       replace a := bk2_ a hb
       replace m := st_ m hb
       (try clear hb)
       (try clear hk)
       refine ho_ W ⟨bx_ a.out 0, bx_ a.out 1, ((m.out.cell (World.block_lt_of_cell? w _ u)).trans u), ((m.out.cell (World.block_lt_of_cell? w _ t)).trans t)⟩ (fun i => ?_)
       iterate 11 refine p_ j ?_
       refine qw_ 17 (m_ 22 196607) j ?_
       refine qt_ 16 (b_ 18 4) j D i ?_
       refine t0_ j D i ?_
       iterate 3 refine p_ j ?_
       refine done_ (done_of j.out (by kernel_rfl)) ?_
       try go_wp2
       go_roundg R
       case measure => have := Q.out; omega
       case rel => exact ⟨(wrap64 (b + 1)), rs_, H', ⟨by have := Q.out; omega⟩, ⟨hs_ m.out⟩⟩
      have U : (Op.bytesLess (((rd_T99 l0 (p)).f0).toList) (((rd_T99 l0 b).f0).toList)) = false := by simpa using O
      clear O
      obtain rfl := Option.some.inj H
      obtain ⟨q, s⟩ : 0 ≤ (b : Int) ∧ b < (l0.length : Int) := pq_
      obtain ⟨v, z, c, d⟩ := at_T99 J.out b q s
      cases z
      replace c := c2_ m c d; clear d; obtain ⟨c, d⟩ := c
      replace q := eq_true q; replace s := eq_true s
      try go_wp2_with (first | ((with_reducible refine gd_ 4 rfl ?_); refine bv_ 4 #[.string (⟨#[]⟩ : ByteArray), .string (⟨#[]⟩ : ByteArray)] 99 ?_; intro g hg qa x hb; have a := Aside0.mk (x); have y := gq_ hg m; replace m := st_ m hb; have I := Ge_.mk y.out; clear hb x hg; obtain ⟨ra, sa, ta, ua⟩ := bc2_ a.out))
      generalize hw_ : ((qa.setCell ⟨g, 0, none⟩ (.string ((rd_T99 l0 b).f0))).setCell ⟨g, 1, none⟩ (.string ((rd_T99 l0 b).f1))) = X
      have A : Aside0 (X.heap[g]? = some (.cells #[.string ((rd_T99 l0 b).f0), .string ((rd_T99 l0 b).f1)] 99 (0, 0))) := ⟨by rw [← hw_]; exact (bp_ a.out)⟩
      have B : Aside0 (Below w.heap.size w X) := ⟨by rw [← hw_]; exact (hs_ m.out)⟩
      clear hw_
      (try clear a)
      (try clear m)
      have a := A
      have m := B
      clear A B
      replace a := Aside0.mk (blk_drew a.out)
      replace m := Aside0.mk (bd_ m.out)
      obtain ⟨F, G⟩ : 0 ≤ ((p) : Int) ∧ (p) < (l0.length : Int) := pq_
      obtain ⟨L, P, l, o⟩ := at_T99 J.out (p) F G
      have t := o
      have u := l
      obtain rfl : v = L := (by injection P)
      replace l := c2_ m l o; clear o; obtain ⟨l, o⟩ := l
      replace F := eq_true F; replace G := eq_true G
      refine start_ (n := 22) (S := fun w' => w'.cell? ⟨g, 0, none⟩ = some (.string ((rd_T99 l0 b).f0)) ∧ w'.cell? ⟨g, 1, none⟩ = some (.string ((rd_T99 l0 b).f1)) ∧ w'.cell? (v.add (((p)).toNat * 2)) = some (.string ((rd_T99 l0 (p)).f0)) ∧ w'.cell? ⟨(v.add (((p)).toNat * 2)).block, (v.add (((p)).toNat * 2)).off + 1, none⟩ = some (.string ((rd_T99 l0 (p)).f1))) (ds := []) (b_ 0 22) (by kernel_rfl) rfl rfl ⟨bx_ a.out 0, bx_ a.out 1, ((m.out.cell (World.block_lt_of_cell? w _ u)).trans u), ((m.out.cell (World.block_lt_of_cell? w _ t)).trans t)⟩ (fun i => ?_); refine with_tabW impl_SetOk.tab4 impl_SetOk.bits4 (fun j D => ?_)
      generalize X.drew = Ta at a m l o i ⊢
      iterate 3 refine p_ j ?_
      refine t0_ j D i ?_
      refine o1_ 4 (b_ 5 17) j (fun K W => ?_)
      refine gs_ Tryz.func132 #[.agg #[.string ((rd_T99 l0 b).f0), .string ((rd_T99 l0 b).f1)]] ?_
      with_reducible refine (impl_LabelOk.calls R ((rd_T99 l0 b).f0) ((rd_T99 l0 b).f1) true _ M.out).mono ?_
      rintro e Ua ⟨rfl, hb⟩
      refine ⟨_, rfl, ?_⟩
      replace a := bk2_ a hb
      replace m := st_ m hb
      (try clear hb)
      (try clear hk)
      refine ho_ W ⟨bx_ a.out 0, bx_ a.out 1, ((m.out.cell (World.block_lt_of_cell? w _ u)).trans u), ((m.out.cell (World.block_lt_of_cell? w _ t)).trans t)⟩ (fun i => ?_)
      iterate 11 refine p_ j ?_
      refine qw_ 17 (m_ 22 196607) j ?_
      refine qt_ 16 (b_ 18 4) j D i ?_
      refine t0_ j D i ?_
      iterate 3 refine p_ j ?_
      refine done_ (done_of j.out (by kernel_rfl)) ?_
      try go_wp2
      go_ret
      exact ⟨by first | rfl | (simp [errW_none, errW_some] <;> rfl) | (simp only [← E]; first | rfl | (simp [errW_none, errW_some] <;> rfl)) | (simp [*, errW_none, errW_some] <;> rfl), hs_ m.out⟩
     have T : decide (0 < b) = false := decide_eq_false N
     clear N
     have H' := Aside0.mk H
     clear H
     obtain ⟨q, s⟩ : 0 ≤ (b : Int) ∧ b < (l0.length : Int) := pq_
     obtain ⟨v, z, c, d⟩ := at_T99 J.out b q s
     cases z
     replace c := c2_ m c d; clear d; obtain ⟨c, d⟩ := c
     replace q := eq_true q; replace s := eq_true s
     try go_wp2_with (first | ((with_reducible refine gd_ 4 rfl ?_); refine bv_ 4 #[.string (⟨#[]⟩ : ByteArray), .string (⟨#[]⟩ : ByteArray)] 99 ?_; intro g hg va x hb; have a := Aside0.mk (x); have y := gq_ hg m; replace m := st_ m hb; have I := Ge_.mk y.out; clear hb x hg; obtain ⟨wa, xa, ya, za⟩ := bc2_ a.out))
     generalize hw_ : ((va.setCell ⟨g, 0, none⟩ (.string ((rd_T99 l0 b).f0))).setCell ⟨g, 1, none⟩ (.string ((rd_T99 l0 b).f1))) = Y
     have A : Aside0 (Y.heap[g]? = some (.cells #[.string ((rd_T99 l0 b).f0), .string ((rd_T99 l0 b).f1)] 99 (0, 0))) := ⟨by rw [← hw_]; exact (bp_ a.out)⟩
     have B : Aside0 (Below w.heap.size w Y) := ⟨by rw [← hw_]; exact (hs_ m.out)⟩
     clear hw_
     (try clear a)
     (try clear m)
     have a := A
     have m := B
     clear A B
     replace a := Aside0.mk (blk_drew a.out)
     replace m := Aside0.mk (bd_ m.out)
     refine start_ (n := 22) (S := fun w' => w'.cell? ⟨g, 0, none⟩ = some (.string ((rd_T99 l0 b).f0)) ∧ w'.cell? ⟨g, 1, none⟩ = some (.string ((rd_T99 l0 b).f1))) (ds := []) (b_ 0 22) (by kernel_rfl) rfl rfl ⟨bx_ a.out 0, bx_ a.out 1⟩ (fun i => ?_); refine with_tabW impl_SetOk.tab4 impl_SetOk.bits4 (fun j D => ?_)
     generalize Y.drew = Va at a m i ⊢
     iterate 3 refine p_ j ?_
     refine t0_ j D i ?_
     refine o1_ 4 (b_ 5 17) j (fun K W => ?_)
     refine gs_ Tryz.func132 #[.agg #[.string ((rd_T99 l0 b).f0), .string ((rd_T99 l0 b).f1)]] ?_
     with_reducible refine (impl_LabelOk.calls R ((rd_T99 l0 b).f0) ((rd_T99 l0 b).f1) true _ M.out).mono ?_
     rintro e Wa ⟨rfl, hb⟩
     refine ⟨_, rfl, ?_⟩
     replace a := bk2_ a hb
     replace m := st_ m hb
     (try clear hb)
     (try clear hk)
     refine ho_ W (e2_ a.out) (fun i => ?_)
     iterate 6 refine p_ j ?_
     iterate 9 refine v_ j ?_
     iterate 2 refine p_ j ?_
     refine done_ (done_of j.out (by kernel_rfl)) ?_
     try go_wp2
     go_roundg R
     case measure => have := Q.out; omega
     case rel => exact ⟨(wrap64 (b + 1)), rs_, H', ⟨by have := Q.out; omega⟩, ⟨hs_ m.out⟩⟩
    obtain rfl := Option.some.inj H
    obtain ⟨q, s⟩ : 0 ≤ (b : Int) ∧ b < (l0.length : Int) := pq_
    obtain ⟨v, z, c, d⟩ := at_T99 J.out b q s
    cases z
    replace c := c2_ m c d; clear d; obtain ⟨c, d⟩ := c
    replace q := eq_true q; replace s := eq_true s
    try go_wp2_with (first | ((with_reducible refine gd_ 4 rfl ?_); refine bv_ 4 #[.string (⟨#[]⟩ : ByteArray), .string (⟨#[]⟩ : ByteArray)] 99 ?_; intro g hg Aa x hb; have a := Aside0.mk (x); have y := gq_ hg m; replace m := st_ m hb; have I := Ge_.mk y.out; clear hb x hg; obtain ⟨Ba, Ca, Da, Ea⟩ := bc2_ a.out))
    generalize hw_ : ((Aa.setCell ⟨g, 0, none⟩ (.string ((rd_T99 l0 b).f0))).setCell ⟨g, 1, none⟩ (.string ((rd_T99 l0 b).f1))) = Z
    have A : Aside0 (Z.heap[g]? = some (.cells #[.string ((rd_T99 l0 b).f0), .string ((rd_T99 l0 b).f1)] 99 (0, 0))) := ⟨by rw [← hw_]; exact (bp_ a.out)⟩
    have B : Aside0 (Below w.heap.size w Z) := ⟨by rw [← hw_]; exact (hs_ m.out)⟩
    clear hw_
    (try clear a)
    (try clear m)
    have a := A
    have m := B
    clear A B
    replace a := Aside0.mk (blk_drew a.out)
    replace m := Aside0.mk (bd_ m.out)
    refine start_ (n := 22) (S := fun w' => w'.cell? ⟨g, 0, none⟩ = some (.string ((rd_T99 l0 b).f0)) ∧ w'.cell? ⟨g, 1, none⟩ = some (.string ((rd_T99 l0 b).f1))) (ds := []) (b_ 0 22) (by kernel_rfl) rfl rfl ⟨bx_ a.out 0, bx_ a.out 1⟩ (fun i => ?_); refine with_tabW impl_SetOk.tab4 impl_SetOk.bits4 (fun j D => ?_)
    generalize Z.drew = Xa at a m i ⊢
    iterate 3 refine p_ j ?_
    refine t0_ j D i ?_
    refine o1_ 4 (b_ 5 17) j (fun K W => ?_)
    refine gs_ Tryz.func132 #[.agg #[.string ((rd_T99 l0 b).f0), .string ((rd_T99 l0 b).f1)]] ?_
    with_reducible refine (impl_LabelOk.calls R ((rd_T99 l0 b).f0) ((rd_T99 l0 b).f1) false _ M.out).mono ?_
    rintro e Ya ⟨rfl, hb⟩
    refine ⟨_, rfl, ?_⟩
    replace a := bk2_ a hb
    replace m := st_ m hb
    (try clear hb)
    (try clear hk)
    refine ho_ W (e2_ a.out) (fun i => ?_)
    iterate 3 refine p_ j ?_
    iterate 13 refine v_ j ?_
    refine p_ j ?_
    refine done_ (done_of j.out (by kernel_rfl)) ?_
    try go_wp2
    go_ret
    exact an_ (hs_ m.out)
   have da : decide (b < (l0.length : Int)) = false := decide_eq_false c2
   clear c2
   obtain rfl := Option.some.inj H
   go_wp2
   go_ret
   exact an_ (hs_ m.out)
end Go.Proofs.YtanfohlpkppeiaaGreat.Print
end
section
namespace Go.Proofs
open Go.Shelf
def Tryz.lays156_ren : Go.Shelf.Ren := ⟨fun | 156 => 117 | 165 => 133 | 166 => 134 | 169 => 135 | 240 => 151 | 241 => 152 | 276 => 156 | 277 => 157 | n => n, fun | 31 => 117 | 9 => 9 | 3 => 3 | 4 => 4 | 0 => 0 | 20 => 20 | 72 => 137 | 76 => 141 | 70 => 135 | 37 => 22 | 75 => 140 | 127 => 149 | 164 => 122 | 5 => 5 | 80 => 143 | n => n, fun | n => n⟩
theorem Tryz.lays156 : Go.Proofs.Lays.n156 Tryz.prog Tryz.lays156_ren := {
  mixed := by kernel_rfl
  f156 := Tryz.func117.trans (congrArg some (by kernel_rfl))
  f165 := Tryz.func133.trans (congrArg some (by kernel_rfl))
  f166 := Tryz.func134.trans (congrArg some (by kernel_rfl))
  f169 := Tryz.func135.trans (congrArg some (by kernel_rfl))
  f240 := Tryz.func151.trans (congrArg some (by kernel_rfl))
  f241 := Tryz.func152.trans (congrArg some (by kernel_rfl))
  f276 := Tryz.func156.trans (congrArg some (by kernel_rfl))
  f277 := Tryz.func157.trans (congrArg some (by kernel_rfl))
  t0 := Tryz.underlying0
  a0 := Tryz.isAgg0
  z0 := Tryz.sizeOf0
  v0 := Tryz.zeroValue0
  t3 := Tryz.underlying3
  a3 := Tryz.isAgg3
  z3 := Tryz.sizeOf3
  v3 := Tryz.zeroValue3
  t4 := Tryz.underlying4
  a4 := Tryz.isAgg4
  z4 := Tryz.sizeOf4
  v4 := Tryz.zeroValue4
  t9 := Tryz.underlying9
  a9 := Tryz.isAgg9
  z9 := Tryz.sizeOf9
  v9 := Tryz.zeroValue9
  t20 := Tryz.underlying20
  a20 := Tryz.isAgg20
  z20 := Tryz.sizeOf20
  v20 := Tryz.zeroValue20
  t31 := Tryz.underlying117
  a31 := Tryz.isAgg117
  z31 := Tryz.sizeOf117
  v31 := Tryz.zeroValue117
  t37 := Tryz.underlying22
  a37 := Tryz.isAgg22
  z37 := Tryz.sizeOf22
  v37 := Tryz.zeroValue22
  t70 := Tryz.underlying135
  a70 := Tryz.isAgg135
  z70 := Tryz.sizeOf135
  v70 := Tryz.zeroValue135
  t72 := Tryz.underlying137
  a72 := Tryz.isAgg137
  z72 := Tryz.sizeOf137
  v72 := Tryz.zeroValue137
  t75 := Tryz.underlying140
  a75 := Tryz.isAgg140
  z75 := Tryz.sizeOf140
  v75 := Tryz.zeroValue140
  t76 := Tryz.underlying141
  a76 := Tryz.isAgg141
  z76 := Tryz.sizeOf141
  v76 := Tryz.zeroValue141
  t127 := Tryz.underlying149
  a127 := Tryz.isAgg149
  z127 := Tryz.sizeOf149
  v127 := Tryz.zeroValue149
  t164 := Tryz.underlying122
  a164 := Tryz.isAgg122
  z164 := Tryz.sizeOf122
  v164 := Tryz.zeroValue122 }
theorem Tryz.Builder_Extra_156 : Builder.Extra Tryz.prog Tryz.lays156_ren := {
  sizeBuilder := by kernel_rfl
  liesBuilder := by kernel_rfl
  t5 := Tryz.underlying5
  a5 := Tryz.isAgg5
  z5 := Tryz.sizeOf5
  v5 := Tryz.zeroValue5
  infoByte := by kernel_rfl
  cellsByte := by kernel_rfl
  sizeByte := by kernel_rfl
  neB5 := by decide }
open Go.RowKit in
theorem Tryz.strings_Join_none (a : Option Addr) (c : Nat) (sep : ByteArray) (w : World) :
    Calls Tryz.prog 117 #[.slice a 0 c, .string sep] w fun e w' => e = .returned (.string ⟨#[]⟩) ∧ w' = w := Any.strings_Join_none Tryz.lays156 Tryz.Builder_Extra_156 a c sep w
open Go.RowKit in
theorem Tryz.strings_Join (bk o c : Nat) (xs : List ByteArray) (sep : ByteArray) (w : World) (hcells : ∀ (j : Nat) x, xs[j]? = some x → w.cell? ⟨bk, o + j, none⟩ = some (.string x)) (hbk : bk < w.heap.size) (hN : xs.length ≤ 140737488355328) (hcap : xs.length ≤ c) (hlen : (Lib.join (xs.map (·.data.toList)) sep.data.toList).length ≤ 140737488355328) :
    Calls Tryz.prog 117 #[.slice (some ⟨bk, o, none⟩) xs.length c, .string sep] w fun e w' => e = .returned (.string ⟨(Lib.join (xs.map (·.data.toList)) sep.data.toList).toArray⟩) ∧ Below w.heap.size w w' := Any.strings_Join Tryz.lays156 Tryz.Builder_Extra_156 bk o c xs sep w hcells hbk hN hcap hlen
def Tryz.laysGt8_ren : Go.Shelf.Ren := ⟨fun | 8 => 110 | 13 => 124 | 14 => 125 | 16 => 127 | 15 => 126 | 29 => 146 | 30 => 147 | 42 => 154 | 49 => 158 | n => n, fun | 20 => 20 | 26 => 115 | 36 => 125 | 0 => 0 | 38 => 127 | 42 => 131 | 3 => 3 | 4 => 4 | 47 => 108 | 17 => 17 | 33 => 122 | 34 => 123 | 89 => 163 | 12 => 12 | 56 => 118 | 82 => 157 | 5 => 5 | 83 => 158 | 84 => 159 | 85 => 149 | 86 => 160 | 87 => 161 | n => n, fun | n => n⟩
theorem Tryz.laysGt8 : Go.Proofs.LaysGt.n8 Tryz.prog Tryz.laysGt8_ren := {
  mixed := by kernel_rfl
  f8 := Tryz.func110.trans (congrArg some (by kernel_rfl))
  f13 := Tryz.func124.trans (congrArg some (by kernel_rfl))
  f14 := Tryz.func125.trans (congrArg some (by kernel_rfl))
  f15 := Tryz.func126.trans (congrArg some (by kernel_rfl))
  f16 := Tryz.func127.trans (congrArg some (by kernel_rfl))
  f29 := Tryz.func146.trans (congrArg some (by kernel_rfl))
  f30 := Tryz.func147.trans (congrArg some (by kernel_rfl))
  f42 := Tryz.func154.trans (congrArg some (by kernel_rfl))
  f49 := Tryz.func158.trans (congrArg some (by kernel_rfl))
  t0 := Tryz.underlying0
  a0 := Tryz.isAgg0
  z0 := Tryz.sizeOf0
  v0 := Tryz.zeroValue0
  i0 := by kernel_rfl
  t3 := Tryz.underlying3
  a3 := Tryz.isAgg3
  z3 := Tryz.sizeOf3
  v3 := Tryz.zeroValue3
  i3 := by kernel_rfl
  t4 := Tryz.underlying4
  a4 := Tryz.isAgg4
  z4 := Tryz.sizeOf4
  v4 := Tryz.zeroValue4
  i4 := by kernel_rfl
  t5 := Tryz.underlying5
  a5 := Tryz.isAgg5
  z5 := Tryz.sizeOf5
  v5 := Tryz.zeroValue5
  i5 := by kernel_rfl
  t12 := Tryz.underlying12
  a12 := Tryz.isAgg12
  z12 := Tryz.sizeOf12
  v12 := Tryz.zeroValue12
  i12 := by kernel_rfl
  t17 := Tryz.underlying17
  a17 := Tryz.isAgg17
  z17 := Tryz.sizeOf17
  v17 := Tryz.zeroValue17
  i17 := by kernel_rfl
  t20 := Tryz.underlying20
  a20 := Tryz.isAgg20
  z20 := Tryz.sizeOf20
  v20 := Tryz.zeroValue20
  i20 := by kernel_rfl
  t26 := Tryz.underlying115
  a26 := Tryz.isAgg115
  z26 := Tryz.sizeOf115
  v26 := Tryz.zeroValue115
  i26 := by kernel_rfl
  t33 := Tryz.underlying122
  a33 := Tryz.isAgg122
  z33 := Tryz.sizeOf122
  v33 := Tryz.zeroValue122
  i33 := by kernel_rfl
  t34 := Tryz.underlying123
  a34 := Tryz.isAgg123
  z34 := Tryz.sizeOf123
  v34 := Tryz.zeroValue123
  i34 := by kernel_rfl
  t36 := Tryz.underlying125
  a36 := Tryz.isAgg125
  z36 := Tryz.sizeOf125
  v36 := Tryz.zeroValue125
  i36 := by kernel_rfl
  t38 := Tryz.underlying127
  a38 := Tryz.isAgg127
  z38 := Tryz.sizeOf127
  v38 := Tryz.zeroValue127
  i38 := by kernel_rfl
  t42 := Tryz.underlying131
  a42 := Tryz.isAgg131
  z42 := Tryz.sizeOf131
  v42 := Tryz.zeroValue131
  i42 := by kernel_rfl
  t47 := Tryz.underlying108
  a47 := Tryz.isAgg108
  z47 := Tryz.sizeOf108
  v47 := Tryz.zeroValue108
  i47 := by kernel_rfl
  t56 := Tryz.underlying118
  a56 := Tryz.isAgg118
  z56 := Tryz.sizeOf118
  v56 := Tryz.zeroValue118
  i56 := by kernel_rfl
  t82 := Tryz.underlying157
  a82 := Tryz.isAgg157
  z82 := Tryz.sizeOf157
  v82 := Tryz.zeroValue157
  i82 := by kernel_rfl
  t83 := Tryz.underlying158
  a83 := Tryz.isAgg158
  z83 := Tryz.sizeOf158
  v83 := Tryz.zeroValue158
  i83 := by kernel_rfl
  t84 := Tryz.underlying159
  a84 := Tryz.isAgg159
  z84 := Tryz.sizeOf159
  v84 := Tryz.zeroValue159
  i84 := by kernel_rfl
  t85 := Tryz.underlying149
  a85 := Tryz.isAgg149
  z85 := Tryz.sizeOf149
  v85 := Tryz.zeroValue149
  i85 := by kernel_rfl
  t86 := Tryz.underlying160
  a86 := Tryz.isAgg160
  z86 := Tryz.sizeOf160
  v86 := Tryz.zeroValue160
  i86 := by kernel_rfl
  t87 := Tryz.underlying161
  a87 := Tryz.isAgg161
  z87 := Tryz.sizeOf161
  v87 := Tryz.zeroValue161
  i87 := by kernel_rfl
  t89 := Tryz.underlying163
  a89 := Tryz.isAgg163
  z89 := Tryz.sizeOf163
  v89 := Tryz.zeroValue163
  i89 := by kernel_rfl }
end Go.Proofs
end
section
namespace Go.Proofs.YtanfohlpkppeiaaGreat.Print
open Go.RowKit Go.Proofs.YtanfohlpkppeiaaGreatV.PrintWords Go.Proofs.YtanfohlpkppeiaaGreatV.PrintLast Go.Proofs.YtanfohlpkppeiaaGreatV.PrintMore
attribute [local go_sem] max2_int min2_int max_two min_two max_three min_three max_four min_four
set_option linter.unusedVariables false
set_option linter.unusedSimpArgs false
set_option maxHeartbeats 8000000
set_option maxRecDepth 100000
def strings_Join.f (l0 : List ByteArray) (a1 : ByteArray) : Option ByteArray := if l0.length ≤ 140737488355328 ∧ (Lib.join (l0.map (·.data.toList)) a1.data.toList).length ≤ 140737488355328 then some ⟨(Lib.join (l0.map (·.data.toList)) a1.data.toList).toArray⟩ else none
theorem strings_Join.calls (i : Option Addr) (d : Nat) (a : List ByteArray) (g : ByteArray) (r : ByteArray) (w : World) (k : Kd.C Kd.string w i a.length a) (l : a.length ≤ d) (h : strings_Join.f a g = some r) :
 Calls Tryz.prog 117 #[.slice i a.length d, .string g] w fun e w' => e = .returned (.string r) ∧ Below w.heap.size w w' := by
 unfold strings_Join.f at h
 split at h
 ·
  rename_i hb
  injection h with h
  subst h
  by_cases h0 : a = []
  ·
   subst h0
   exact (Tryz.strings_Join_none i d g w).mono fun e w' ⟨he, hw⟩ => ⟨he, hw ▸ Below.refl _ _⟩
  obtain ⟨ad, rfl, hcell⟩ := k.2.2 (List.length_pos_iff.2 h0)
  have hc : ∀ (j : Nat) x, a[j]? = some x → w.cell? (ad.add j) = some (.string x) := by
   intro j x hx
   obtain ⟨c, hl, hk, hu⟩ := hcell j x hx
   have := hu 0 (.string x) (by rw [show c = [.string x] from hk]; rfl)
   simpa [Kd.string, Kd.scalar] using this
  have hp : 0 < a.length := List.length_pos_iff.2 h0
  have hs := hc 0 a[0] (List.getElem?_eq_getElem hp)
  have hb0 : ad.block < w.heap.size := by
   have h1 := hs
   rw [show ad.add 0 = ad from rfl] at h1
   unfold World.cell? at h1
   by_cases hlt : ad.block < w.heap.size
   ·
    exact hlt
   rw [Array.getElem?_eq_none (by omega)] at h1; simp at h1
  have hspot : ad = ⟨ad.block, ad.off, none⟩ := by
   have h1 := hs
   rw [show ad.add 0 = ad from rfl] at h1
   unfold World.cell? at h1
   rcases ad with ⟨b, o, s⟩
   cases s with
   | none => rfl
   | some s => simp only [Option.isSome_some, if_true] at h1; split at h1 <;> simp at h1
  have hcells : ∀ (j : Nat) x, a[j]? = some x → w.cell? ⟨ad.block, ad.off + j, none⟩ = some (.string x) := by
   intro j x hx
   have := hc j x hx
   unfold Addr.add at this
   by_cases hj : j = 0
   ·
    subst hj; rw [if_pos rfl] at this; rw [hspot] at this; exact this
   rw [if_neg hj] at this; exact this
  rw [show (some ad : Option Addr) = some ⟨ad.block, ad.off, none⟩ from by rw [← hspot]]
  exact Tryz.strings_Join ad.block ad.off d a g w hcells hb0 hb.1 l hb.2
 exact absurd h (by simp)
def impl_SetText.l0 : Nat → List ByteArray → List (S99) → Int → Int → Option (ByteArray)
 | 0, _, _, _, _ => none
 | k + 1, x3, x9, x10, x11 => if x11 < x10 then (if 0 ≤ x11 then (if x11 < (x9.length : Int) then (if ((rd_T99 x9 x11).f0).size + 2 ≤ 9223372036854775807 then (if (((rd_T99 x9 x11).f0) ++ (⟨#[61, 34]⟩ : ByteArray)).size + ((rd_T99 x9 x11).f1).size ≤ 9223372036854775807 then (if ((((rd_T99 x9 x11).f0) ++ (⟨#[61, 34]⟩ : ByteArray)) ++ ((rd_T99 x9 x11).f1)).size + 1 ≤ 9223372036854775807 then (if x3.length < 8796093022208 then (impl_SetText.l0 k (x3 ++ [((((rd_T99 x9 x11).f0) ++ (⟨#[61, 34]⟩ : ByteArray)) ++ ((rd_T99 x9 x11).f1)) ++ (⟨#[34]⟩ : ByteArray)]) x9 x10 (wrap64 (x11 + 1))) else (none)) else (none)) else (none)) else (none)) else (none)) else (none)) else ((strings_Join.f x3 (⟨#[44, 32]⟩ : ByteArray)).bind fun t695 => (if 1 + t695.size ≤ 9223372036854775807 then (if ((⟨#[123]⟩ : ByteArray) ++ t695).size + 1 ≤ 9223372036854775807 then (some (((⟨#[123]⟩ : ByteArray) ++ t695) ++ (⟨#[125]⟩ : ByteArray))) else (none)) else (none)))
def impl_SetText.f (k : Nat) (l0 : List (S99)) : Option (ByteArray) := (impl_SetOk.f k l0).bind fun t689 => (if t689 = true then (impl_SetText.l0 k ([] : List ByteArray) l0 (l0.length : Int) 0) else (some (⟨#[]⟩ : ByteArray)))
theorem impl_SetText.calls (k : Nat) (V : Option Addr) (W : Nat) (l0 : List (S99)) (r : ByteArray) (w : World) (K : Kd.C k99 w V l0.length l0) (L : l0.length ≤ W) (h : impl_SetText.f k l0 = some r) :
  Calls Tryz.prog 96 #[.slice V l0.length W] w fun e w' => e = .returned (.string r) ∧ Below w.heap.size w w' := by
 have hu99 := Tryz.underlying99
 have B := Aside0.mk K
 have M := Aside0.mk L
 clear K L
 have m := Aside0.mk (Below.refl w.heap.size w)
 have H : ((impl_SetOk.f k l0).bind fun y => (if y = true then (impl_SetText.l0 k ([] : List ByteArray) l0 (l0.length : Int) 0) else (some (⟨#[]⟩ : ByteArray)))) = some r := h
 clear h
 replace H := bi_ H; obtain ⟨y, A2, H⟩ := H
 replace H := ib_ H; rcases H with ⟨rfl, H⟩ | ⟨rfl, H⟩
 ·
  have H' := Aside0.mk H
  clear H
  go_enter Tryz.func96, Tryz.ntmps96
  go_wp2_with (first | ((with_reducible refine gate_callee (f := 116) rfl ?_); refine gl_ (some 7) Tryz.func116 #[.slice V l0.length W] ?_; (with_reducible refine (impl_SetOk.calls k _ _ l0 true _ ?side1 ?side2 A2.out).mono ?_); (case side1 => exact cp_ (B.out)); (case side2 => exact M.out); rintro e w4 ⟨rfl, hb⟩; refine ⟨_, rfl, ?_⟩; replace m := st_ m hb; (try clear hb); (try clear hk)))
  go_loopg [3, 11] k (fun kq v3 Y w' => ∃ (i : List ByteArray) (a : Int), Y = .int .i64 a ∧ Aside0 (impl_SetText.l0 kq i l0 (l0.length : Int) a = some r) ∧ Aside0 (kq ≤ k) ∧ Aside0 (Kd.R Kd.string 9 w' w.heap.size (fun _ => True) v3 i) ∧ Aside0 (Below w.heap.size w w'))
  case atStart => exact ⟨(([] : List ByteArray)), (0), rs_, H', ⟨Nat.le_refl _⟩, ⟨by first | exact Kd.R_nil _ _ _ _ _ | exact Kd.N_nil _ _ _ _ _ | exact Kd.V_nil _ _ _ _ _ | exact Kd.Q_nil _ _ _ _ _ | exact Kd.S_nil _ _ _ _ _⟩, ⟨hs_ m.out⟩⟩
  case round =>
   clear H'
   obtain ⟨i, a, rfl, Z, N, c, m⟩ := hrel
   cases gk with
   | zero => exact absurd Z.out (by simp [impl_SetText.l0])
   | succ k1 =>
    have H := Z.out
    clear Z
    simp only [impl_SetText.l0] at H
    replace H := ie_ H; rcases H with ⟨O, H⟩ | ⟨O, H⟩
    ·
     have P := decide_eq_true O
     clear O
     replace H := id_ H; obtain ⟨za, H⟩ := H
     replace H := id_ H; obtain ⟨Aa, H⟩ := H
     replace H := in_ H; obtain ⟨c8, H⟩ := H
     have Ba := eq_true c8
     have Ca := decide_eq_true c8
     try have Da : (9223372036854775807 < ((rd_T99 l0 a).f0).size + 2) = False := eq_false (Nat.not_lt.2 c8)
     replace H := in_ H; obtain ⟨X, H⟩ := H
     have Ea := eq_true X
     have Fa := decide_eq_true X
     try have Ga : (9223372036854775807 < (((rd_T99 l0 a).f0) ++ (⟨#[61, 34]⟩ : ByteArray)).size + ((rd_T99 l0 a).f1).size) = False := eq_false (Nat.not_lt.2 X)
     have q := X
     simp only [ByteArray.size_append, show (⟨#[61, 34]⟩ : ByteArray).size = 2 from rfl] at q
     have Ha := eq_false (Nat.not_lt.2 q)
     have Ia := decide_eq_true q
     have Ja := eq_true q
     clear q
     replace H := in_ H; obtain ⟨v, H⟩ := H
     have ba := eq_true v
     have ca := decide_eq_true v
     try have da : (9223372036854775807 < ((((rd_T99 l0 a).f0) ++ (⟨#[61, 34]⟩ : ByteArray)) ++ ((rd_T99 l0 a).f1)).size + 1) = False := eq_false (Nat.not_lt.2 v)
     have n := v
     simp only [ByteArray.size_append, show (⟨#[61, 34]⟩ : ByteArray).size = 2 from rfl] at n
     have ea := eq_false (Nat.not_lt.2 n)
     have fa := decide_eq_true n
     have ga := eq_true n
     clear n
     replace H := im_ H; obtain ⟨D, H⟩ := H
     obtain ⟨z, hy_⟩ : ∃ y_ : List ByteArray, y_ = (i ++ [((((rd_T99 l0 a).f0) ++ (⟨#[61, 34]⟩ : ByteArray)) ++ ((rd_T99 l0 a).f1)) ++ (⟨#[34]⟩ : ByteArray)]) := ⟨_, rfl⟩
     replace H : (impl_SetText.l0 k1 z l0 (l0.length : Int) (wrap64 (a + 1))) = some r := hm_
     have E := Aside0.mk hy_; clear hy_
     have H' := Aside0.mk H
     clear H
     obtain ⟨s, t⟩ : 0 ≤ (a : Int) ∧ a < (l0.length : Int) := pq_
     obtain ⟨ha, Q, d, j⟩ := at_T99 B.out a s t
     cases Q
     replace d := c2_ m d j; clear j; obtain ⟨d, j⟩ := d
     replace s := eq_true s; replace t := eq_true t
     go_wp2_with (first | ((with_reducible refine gd_ 5 rfl ?_); refine bv_ 5 #[.string (⟨#[]⟩ : ByteArray), .string (⟨#[]⟩ : ByteArray)] 99 ?_; intro F hg Ma A hb; replace c := rb_ c hb; have l := Aside0.mk (A); have G := gq_ hg m; replace m := st_ m hb; have ia := Ge_.mk G.out; clear hb A hg; obtain ⟨ja, ka, la, ma⟩ := bc2_ l.out) | ((with_reducible refine gate_builtin (b := .append) (xs := #[.tmp 15, .tmp 23]) rfl ?_); at_builtin; refine Kd.R_append Kd.string (w0 := w) w.heap.size rfl (.tmp 15) (.tmp 23) 117 9 (.string ⟨#[]⟩) 16 rfl Tryz.underlying117 info9 rfl (by decide) (by omega) u3 i (((((rd_T99 l0 a).f0) ++ (⟨#[61, 34]⟩ : ByteArray)) ++ ((rd_T99 l0 a).f1)) ++ (⟨#[34]⟩ : ByteArray)) [.string (((((rd_T99 l0 a).f0) ++ (⟨#[61, 34]⟩ : ByteArray)) ++ ((rd_T99 l0 a).f1)) ++ (⟨#[34]⟩ : ByteArray))] (fun _ => True) (fun _ => False) rfl (by first | (go_simp; done) | (go_simp; rfl)) ?aP (fun _ hk => hk.elim) ?aF ?aO ?aB ?aS ?aL ?_; (case aP => exact rfl); (case aB => exact (hs_ m.out)); (case aF => exact (fun _ _ => trivial)); (case aO => exact (Kd.R_mono (ry_ c.out l.out) (fun _ hk => trivial))); (case aS => exact (below_size (hs_ m.out))); (case aL => have := D.out; omega); intro Ka Na ho hb hg hat; rw [← E.out] at ho; replace l := Aside0.mk (blk_grown (g := F) (o := .cells #[.string ((rd_T99 l0 a).f0), .string ((rd_T99 l0 a).f1)] 99 (0, 0)) (bp_ l.out) hg (Kd.R_ne c.out l.out (by decide))); replace m := Aside0.mk (hb); have I := Aside0.mk (ho); clear c; clear ho hb hg hat))
     go_roundg k1
     case measure => have := N.out; omega
     case rel => exact ⟨(z), (wrap64 (a + 1)), rs_, H', ⟨by have := N.out; omega⟩, ⟨rp_ I.out⟩, ⟨hs_ m.out⟩⟩
    have P : decide (a < (l0.length : Int)) = false := decide_eq_false O
    clear O
    replace H := bi_ H; obtain ⟨u, na, H⟩ := H
    replace H := in_ H; obtain ⟨J, H⟩ := H
    have oa := eq_true J
    have pa := decide_eq_true J
    try have qa : (9223372036854775807 < 1 + u.size) = False := eq_false (Nat.not_lt.2 J)
    replace H := in_ H; obtain ⟨x, H⟩ := H
    have ra := eq_true x
    have sa := decide_eq_true x
    try have ta : (9223372036854775807 < ((⟨#[123]⟩ : ByteArray) ++ u).size + 1) = False := eq_false (Nat.not_lt.2 x)
    have p := x
    simp only [ByteArray.size_append, show (⟨#[123]⟩ : ByteArray).size = 1 from rfl] at p
    have ua := eq_false (Nat.not_lt.2 p)
    have va := decide_eq_true p
    have wa := eq_true p
    clear p
    obtain rfl := Option.some.inj H
    obtain ⟨S, T, U⟩ := Kd.R_slice c.out
    subst U
    go_wp2_with (first | ((with_reducible refine gate_callee (f := 117) rfl ?_); refine gl_ (some 27) Tryz.func117 #[.slice S i.length T, .string (⟨#[44, 32]⟩ : ByteArray)] ?_; (with_reducible refine (strings_Join.calls _ _ i (⟨#[44, 32]⟩ : ByteArray) u _ ?side1 ?side2 na.out).mono ?_); (case side1 => exact cp_ ((Kd.R_reads' c.out).2.2)); (case side2 => exact (Kd.R_reads' c.out).2.1); rintro e Oa ⟨rfl, hb⟩; refine ⟨_, rfl, ?_⟩; replace c := rb_ c hb; replace m := st_ m hb; (try clear hb); (try clear hk)))
    go_ret
    exact an_ (hs_ m.out)
 obtain rfl := Option.some.inj H
 go_enter Tryz.func96, Tryz.ntmps96
 go_wp2_with (first | ((with_reducible refine gate_callee (f := 116) rfl ?_); refine gl_ (some 7) Tryz.func116 #[.slice V l0.length W] ?_; (with_reducible refine (impl_SetOk.calls k _ _ l0 false _ ?side1 ?side2 A2.out).mono ?_); (case side1 => exact cp_ (B.out)); (case side2 => exact M.out); rintro e Pa ⟨rfl, hb⟩; refine ⟨_, rfl, ?_⟩; replace m := st_ m hb; (try clear hb); (try clear hk)))
 go_ret
 exact an_ (hs_ m.out)
def impl_Finger.f (k : Nat) (l0 : List (S99)) : Option (Int) := (impl_SetText.f k l0).bind fun t696 => ((impl_Sum.f k t696).bind fun t697 => (some (Int.tmod (Go.bits .xor .i64 t697 (t697 / 65536)) 32)))
theorem impl_Finger.calls (k : Nat) (i : Option Addr) (j : Nat) (c : List (S99)) (r : Int) (w : World) (d : Kd.C k99 w i c.length c) (g : c.length ≤ j) (h : impl_Finger.f k c = some r) :
  Calls Tryz.prog 55 #[.slice i c.length j] w fun e w' => e = .returned (.int .i64 r) ∧ Below w.heap.size w w' := by
 have l := Aside0.mk d
 have m := Aside0.mk g
 clear d g
 have n := Aside0.mk (Below.refl w.heap.size w)
 have H : ((impl_SetText.f k c).bind fun a => ((impl_Sum.f k a).bind fun b => (some (Int.tmod (Go.bits .xor .i64 b (b / 65536)) 32)))) = some r := h
 clear h
 replace H := bi_ H; obtain ⟨a, o, H⟩ := H
 replace H := bi_ H; obtain ⟨b, p, H⟩ := H
 obtain rfl := Option.some.inj H
 go_enter Tryz.func55, Tryz.ntmps55
 go_wp2_with (first | ((with_reducible refine gate_callee (f := 96) rfl ?_); refine gl_ (some 5) Tryz.func96 #[.slice i c.length j] ?_; (with_reducible refine (impl_SetText.calls k _ _ c a _ ?side1 ?side2 o.out).mono ?_); (case side1 => exact cp_ (l.out)); (case side2 => exact m.out); rintro e q ⟨rfl, hb⟩; refine ⟨_, rfl, ?_⟩; replace n := st_ n hb; (try clear hb); (try clear hk)) | ((with_reducible refine gate_callee (f := 95) rfl ?_); refine gl_ (some 6) Tryz.func95 #[.string a] ?_; (with_reducible refine (impl_Sum.calls k a b _ p.out).mono ?_); rintro e w' ⟨rfl, ⟨s, rfl⟩⟩; refine ⟨_, rfl, ?_⟩))
 go_ret
 exact an_ (hs_ n.out)
def impl_chainOf.l0 : Nat → Int → List (S80) → Int → Int → Option (Int)
 | 0, _, _, _, _ => none
 | k + 1, x1, x8, x9, x10 => if x10 < x9 then (if 0 ≤ x10 then (if x10 < (x8.length : Int) then (if ((rd_T80 x8 x10).f0) = x1 then (some x10) else (impl_chainOf.l0 k x1 x8 x9 (wrap64 (x10 + 1)))) else (none)) else (none)) else (some (-1))
def impl_chainOf.f (k : Nat) (a0_0 : Int) (a0_1 : Int) (l0_2 : List (S80)) (a1 : Int) : Option (Int) := impl_chainOf.l0 k a1 l0_2 (l0_2.length : Int) 0
theorem impl_chainOf.calls (k : Nat) (u : Int) (v : Int) (x : Option Addr) (y : Nat) (c : List (S80)) (J : Int) (r : Int) (w : World) (z : Kd.C k80 w x c.length c) (A : c.length ≤ y) (h : impl_chainOf.f k u v c J = some r) :
  Calls Tryz.prog 56 #[.agg #[.int .i64 u, .int .i64 v, .slice x c.length y], .int .i64 J] w fun e w' => e = .returned (.int .i64 r) ∧ Below w.heap.size w w' := by
 have hu26 := Tryz.underlying26
 have hu80 := Tryz.underlying80
 have B := Aside0.mk z
 have V := Aside0.mk A
 clear z A
 have q := Aside0.mk (Below.refl w.heap.size w)
 have H : (impl_chainOf.l0 k J c (c.length : Int) 0) = some r := h
 clear h
 have H' := Aside0.mk H
 clear H
 go_enter Tryz.func56, Tryz.ntmps56
 go_wp2_with (first | ((with_reducible refine gd_ 2 rfl ?_); refine bv_ 2 #[.int .i64 u, .int .i64 v, .slice x c.length y] 26 ?_; intro K hg w3 n hb; have g := Aside0.mk (n); have L := gq_ hg q; replace q := st_ q hb; have W := Ge_.mk L.out; clear hb n hg; obtain ⟨la, ma, na, oa, pa, qa⟩ := bc3_ g.out))
 go_loopg [10] k (fun kq X w' => ∃ (a : Int), X = .int .i64 a ∧ Aside0 (impl_chainOf.l0 kq J c (c.length : Int) a = some r) ∧ Aside0 (kq ≤ k) ∧ Aside0 (w'.heap[K]? = some (.cells #[.int .i64 u, .int .i64 v, (.slice x c.length y)] 26 (0, 0))) ∧ Aside0 (Below w.heap.size w w'))
 case atStart => exact ⟨(0), rs_, H', ⟨Nat.le_refl _⟩, ⟨bq_ g.out⟩, ⟨hs_ q.out⟩⟩
 case round =>
  clear H'
  obtain ⟨a, rfl, Y, Q, g, q⟩ := hrel
  cases gk with
  | zero => exact absurd Y.out (by simp [impl_chainOf.l0])
  | succ k1 =>
   have H := Y.out
   clear Y
   simp only [impl_chainOf.l0] at H
   replace H := ie_ H; rcases H with ⟨R, H⟩ | ⟨R, H⟩
   ·
    have S := decide_eq_true R
    clear R
    replace H := id_ H; obtain ⟨ra, H⟩ := H
    replace H := id_ H; obtain ⟨sa, H⟩ := H
    replace H := ie_ H; rcases H with ⟨P, H⟩ | ⟨P, H⟩
    ·
     have T : (((rd_T80 c a).f0) == J) = true := beq_iff_eq.mpr P
     have U : (((rd_T80 c a).f0) != J) = false := bne_eq_false_iff_eq.mpr P
     clear P
     obtain rfl := Option.some.inj H
     obtain ⟨o, p⟩ : 0 ≤ (a : Int) ∧ a < (c.length : Int) := pq_
     obtain ⟨M, G, I, D, b, d, i, j⟩ := at_T80 B.out a o p
     cases D
     replace b := c2_ q b d; clear d; obtain ⟨b, d⟩ := b
     have E := Aside0.mk j
     have F := Aside0.mk i
     clear j i
     replace o := eq_true o; replace p := eq_true p
     go_wp2_with (first | ((with_reducible refine gd_ 6 rfl ?_); refine bv_ 6 #[.int .i64 0, .slice none 0 0] 80 ?_; intro N hg w9 n hb; have s := Aside0.mk (n); have t := gq_ hg q; replace q := st_ q hb; have O := Ge_.mk t.out; obtain ⟨l, m, g⟩ := nb_ g hg hb; clear hb n hg; have Z := m.out; have aa := l.out; obtain ⟨ba, ca, da, ea⟩ := bc2_ s.out))
     go_ret
     exact an_ (hs_ q.out)
    have T : (((rd_T80 c a).f0) == J) = false := beq_eq_false_iff_ne.mpr P
    have U : (((rd_T80 c a).f0) != J) = true := bne_iff_ne.mpr P
    have H' := Aside0.mk H
    clear H
    obtain ⟨o, p⟩ : 0 ≤ (a : Int) ∧ a < (c.length : Int) := pq_
    obtain ⟨M, G, I, D, b, d, i, j⟩ := at_T80 B.out a o p
    cases D
    replace b := c2_ q b d; clear d; obtain ⟨b, d⟩ := b
    have E := Aside0.mk j
    have F := Aside0.mk i
    clear j i
    replace o := eq_true o; replace p := eq_true p
    go_wp2_with (first | ((with_reducible refine gd_ 6 rfl ?_); refine bv_ 6 #[.int .i64 0, .slice none 0 0] 80 ?_; intro N hg ua n hb; have s := Aside0.mk (n); have t := gq_ hg q; replace q := st_ q hb; have O := Ge_.mk t.out; obtain ⟨l, m, g⟩ := nb_ g hg hb; clear hb n hg; have fa := m.out; have ga := l.out; obtain ⟨ha, ia, ja, ka⟩ := bc2_ s.out))
    go_roundg k1
    case measure => have := Q.out; omega
    case rel => exact ⟨(wrap64 (a + 1)), rs_, H', ⟨by have := Q.out; omega⟩, ⟨bq_ g.out⟩, ⟨hs_ q.out⟩⟩
   have S : decide (a < (c.length : Int)) = false := decide_eq_false R
   clear R
   obtain rfl := Option.some.inj H
   go_wp2
   go_ret
   exact an_ (hs_ q.out)
def impl_labelsAt.l0 : Nat → List (S99) → List (S29) → Int → Int → Option (Int)
 | 0, _, _, _, _ => none
 | k + 1, x1, x7, x8, x9 => if x9 < x8 then (if 0 ≤ x9 then (if x9 < (x7.length : Int) then ((impl_SameSet.f k ((rd_T29 x7 x9).f0) x1).bind fun t718 => (if t718 = true then (some x9) else (impl_labelsAt.l0 k x1 x7 x8 (wrap64 (x9 + 1))))) else (none)) else (none)) else (some (-1))
def impl_labelsAt.f (k : Nat) (l0 : List (S29)) (l1 : List (S99)) : Option (Int) := impl_labelsAt.l0 k l1 l0 (l0.length : Int) 0
theorem impl_labelsAt.calls (k : Nat) (A0 : Option Addr) (c0 : Nat) (l0 : List (S29)) (O : Option Addr) (P : Nat) (x : List (S99)) (r : Int) (w : World) (D : Kd.C k29 w A0 l0.length l0) (E : l0.length ≤ c0) (F : Kd.C k99 w O x.length x) (G : x.length ≤ P) (h : impl_labelsAt.f k l0 x = some r) :
  Calls Tryz.prog 101 #[.slice A0 l0.length c0, .slice O x.length P] w fun e w' => e = .returned (.int .i64 r) ∧ Below w.heap.size w w' := by
 have hu29 := Tryz.underlying29
 have I := Aside0.mk D
 have oa := Aside0.mk E
 clear D E
 have J := Aside0.mk F
 have K := Aside0.mk G
 clear F G
 have s := Aside0.mk (Below.refl w.heap.size w)
 have H : (impl_labelsAt.l0 k x l0 (l0.length : Int) 0) = some r := h
 clear h
 have H' := Aside0.mk H
 clear H
 go_enter Tryz.func101, Tryz.ntmps101
 go_wp2
 go_loopg [9] k (fun kq v9 w' => ∃ (b : Int), v9 = .int .i64 b ∧ Aside0 (impl_labelsAt.l0 kq x l0 (l0.length : Int) b = some r) ∧ Aside0 (kq ≤ k) ∧ Aside0 (Below w.heap.size w w'))
 case atStart => exact ⟨(0), rs_, H', ⟨Nat.le_refl _⟩, ⟨hs_ s.out⟩⟩
 case round =>
  clear H'
  obtain ⟨b, rfl, Q, L, s⟩ := hrel
  cases gk with
  | zero => exact absurd Q.out (by simp [impl_labelsAt.l0])
  | succ R =>
   have H := Q.out
   clear Q
   simp only [impl_labelsAt.l0] at H
   replace H := ie_ H; rcases H with ⟨M, H⟩ | ⟨M, H⟩
   ·
    have N := decide_eq_true M
    clear M
    replace H := id_ H; obtain ⟨ca, H⟩ := H
    replace H := id_ H; obtain ⟨da, H⟩ := H
    replace H := bi_ H; obtain ⟨ea, A6, H⟩ := H
    replace H := ib_ H; rcases H with ⟨rfl, H⟩ | ⟨rfl, H⟩
    ·
     obtain rfl := Option.some.inj H
     obtain ⟨l, m⟩ : 0 ≤ (b : Int) ∧ b < (l0.length : Int) := pq_
     obtain ⟨z, p, q, y, a, c, d, g, i, j⟩ := at_T29 I.out b l m
     cases y
     replace a := c4_ s a c d g; clear c d g; obtain ⟨a, c, d, g⟩ := a
     have n := Aside0.mk j
     have o := Aside0.mk i
     clear j i
     replace l := eq_true l; replace m := eq_true m
     go_wp2_with (first | ((with_reducible refine gd_ 6 rfl ?_); refine bv_ 6 #[.slice none 0 0, .int .i64 0, .int .i64 0, .string (⟨#[]⟩ : ByteArray)] 29 ?_; intro A hg w8 t hb; have u := Aside0.mk (t); have v := gq_ hg s; replace s := st_ s hb; have B := Ge_.mk v.out; clear hb t hg; obtain ⟨ga, ha, ia, ja, ka, la, ma, na⟩ := bc4_ u.out) | ((with_reducible refine gate_callee (f := 72) rfl ?_); refine gl_ (some 17) Tryz.func72 #[.slice p ((rd_T29 l0 b).f0).length q, .slice O x.length P] ?_; (with_reducible refine (impl_SameSet.calls R _ _ ((rd_T29 l0 b).f0) _ _ x true _ ?side1 ?side2 ?side3 ?side4 A6.out).mono ?_); (case side1 => exact Kd.C_below n.out (hs_ s.out)); (case side2 => exact o.out); (case side3 => exact Kd.C_below J.out (hs_ s.out)); (case side4 => exact K.out); rintro e w' ⟨rfl, ⟨nd, rfl⟩⟩; refine ⟨_, rfl, ?_⟩))
     go_ret
     exact an_ (hs_ s.out)
    have H' := Aside0.mk H
    clear H
    obtain ⟨l, m⟩ : 0 ≤ (b : Int) ∧ b < (l0.length : Int) := pq_
    obtain ⟨z, p, q, y, a, c, d, g, i, j⟩ := at_T29 I.out b l m
    cases y
    replace a := c4_ s a c d g; clear c d g; obtain ⟨a, c, d, g⟩ := a
    have n := Aside0.mk j
    have o := Aside0.mk i
    clear j i
    replace l := eq_true l; replace m := eq_true m
    go_wp2_with (first | ((with_reducible refine gd_ 6 rfl ?_); refine bv_ 6 #[.slice none 0 0, .int .i64 0, .int .i64 0, .string (⟨#[]⟩ : ByteArray)] 29 ?_; intro A hg ra t hb; have u := Aside0.mk (t); have v := gq_ hg s; replace s := st_ s hb; have B := Ge_.mk v.out; clear hb t hg; obtain ⟨S, T, U, V, W, X, Y, Z⟩ := bc4_ u.out) | ((with_reducible refine gate_callee (f := 72) rfl ?_); refine gl_ (some 17) Tryz.func72 #[.slice p ((rd_T29 l0 b).f0).length q, .slice O x.length P] ?_; (with_reducible refine (impl_SameSet.calls R _ _ ((rd_T29 l0 b).f0) _ _ x false _ ?side1 ?side2 ?side3 ?side4 A6.out).mono ?_); (case side1 => exact Kd.C_below n.out (hs_ s.out)); (case side2 => exact o.out); (case side3 => exact Kd.C_below J.out (hs_ s.out)); (case side4 => exact K.out); rintro e w' ⟨rfl, ⟨nd, rfl⟩⟩; refine ⟨_, rfl, ?_⟩))
    go_roundg R
    case measure => have := L.out; omega
    case rel => exact ⟨(wrap64 (b + 1)), rs_, H', ⟨by have := L.out; omega⟩, ⟨hs_ s.out⟩⟩
   have N : decide (b < (l0.length : Int)) = false := decide_eq_false M
   clear M
   obtain rfl := Option.some.inj H
   go_wp2
   go_ret
   exact an_ (hs_ s.out)
def impl_InChain.f (k : Nat) (a0_0 : Int) (l0_1 : List (S29)) (l1 : List (S99)) : Option (Int) := (impl_labelsAt.f k l0_1 l1).bind fun t720 => (some t720)
theorem impl_InChain.calls (k : Nat) (g : Int) (c : Option Addr) (d : Nat) (a : List (S29)) (v : Option Addr) (x : Nat) (m : List (S99)) (r : Int) (w : World) (i : Kd.C k29 w c a.length a) (j : a.length ≤ d) (t : Kd.C k99 w v m.length m) (u : m.length ≤ x) (h : impl_InChain.f k g a m = some r) :
  Calls Tryz.prog 64 #[.agg #[.int .i64 g, .slice c a.length d], .slice v m.length x] w fun e w' => e = .returned (.int .i64 r) ∧ Below w.heap.size w w' := by
 have hu80 := Tryz.underlying80
 have p := Aside0.mk i
 have q := Aside0.mk j
 clear i j
 have y := Aside0.mk t
 have z := Aside0.mk u
 clear t u
 have n := Aside0.mk (Below.refl w.heap.size w)
 have H : ((impl_labelsAt.f k a m).bind fun l => (some l)) = some r := h
 clear h
 replace H := bi_ H; obtain ⟨l, I, H⟩ := H
 obtain rfl := Option.some.inj H
 go_enter Tryz.func64, Tryz.ntmps64
 go_wp2_with (first | ((with_reducible refine gd_ 2 rfl ?_); refine bv_ 2 #[.int .i64 g, .slice c a.length d] 80 ?_; intro A hg J o hb; have b := Aside0.mk (o); have s := gq_ hg n; replace n := st_ n hb; have B := Ge_.mk s.out; clear hb o hg; obtain ⟨D, E, F, G⟩ := bc2_ b.out) | ((with_reducible refine gate_callee (f := 101) rfl ?_); refine gl_ (some 8) Tryz.func101 #[.slice c a.length d, .slice v m.length x] ?_; (with_reducible refine (impl_labelsAt.calls k _ _ a _ _ m l _ ?side1 ?side2 ?side3 ?side4 I.out).mono ?_); (case side1 => exact cp_ ((Kd.C_below p.out n.out))); (case side2 => exact q.out); (case side3 => exact cp_ ((Kd.C_below y.out n.out))); (case side4 => exact z.out); rintro e K ⟨rfl, hb⟩; refine ⟨_, rfl, ?_⟩; replace b := bk2_ b hb; replace n := st_ n hb; (try clear hb); (try clear hk)))
 go_ret
 exact an_ (hs_ n.out)
def impl_PutChain.f (k : Nat) (a0_0 : Int) (l0_1 : List (S29)) (l1_0 : List (S99)) (a1_1 : Int) (a1_2 : Int) (a1_3 : ByteArray) : Option (Int × (List (S29)) × Bool) := (impl_copyChain.f k a0_0 l0_1).bind fun bt724 => ((impl_InChain.f k a0_0 l0_1 l1_0).bind fun t729 => (if t729 ≥ 0 then (if 0 ≤ t729 then (if t729 < (l0_1.length : Int) then ((impl_Merge.f ((rd_T29 l0_1 t729).f0) ((rd_T29 l0_1 t729).f1) ((rd_T29 l0_1 t729).f2) ((rd_T29 l0_1 t729).f3) l1_0 a1_1 a1_2 a1_3).bind fun bt731 => (if t729 < (bt724.2.length : Int) then (some (bt724.1, (bt724.2.set (t729 : Int).toNat (⟨bt731.1, bt731.2.1, bt731.2.2.1, bt731.2.2.2⟩ : S29)), false)) else (none))) else (none)) else (none)) else ((impl_copyAlarm.f l1_0 a1_1 a1_2 a1_3).bind fun bt738 => (if bt724.2.length < 2513169434916 then (some (bt724.1, (bt724.2 ++ [(⟨bt738.1, bt738.2.1, bt738.2.2.1, bt738.2.2.2⟩ : S29)]), true)) else (none)))))
def impl_PutChain.T4 : Bool × List (List Nat × List Nat) := (true, [([], []), ([0], [0]), ([], []), ([], []), ([3], [3]), ([], []), ([4, 5], [4, 5]), ([6], [6]), ([], []), ([7, 8], [7, 8]), ([1, 2, 0, 1, 2, 3, 4, 5, 6, 7, 8, 9], [1, 2]), ([10, 9, 9, 0, 1, 2, 3, 4, 5, 6, 7, 8, 9], [9, 10])])
def impl_PutChain.B4 : List Nat := [0, 1, 0, 0, 8, 0, 56, 120, 0, 504, 1023, 2047]
theorem impl_PutChain.tab4 : rtab .any (opsOf Tryz.f57 4) = impl_PutChain.T4 := by kernel_rfl
theorem impl_PutChain.bits4 : waitsOk impl_PutChain.T4.2 impl_PutChain.B4 = true := by kernel_rfl
def impl_PutChain.T6 : Bool × List (List Nat × List Nat) := (true, [([], []), ([0], [0]), ([], []), ([2], [2]), ([3], [3]), ([1, 4, 3], [1, 4]), ([0, 1, 2, 3, 4, 5], []), ([6, 5, 5, 0, 1, 2, 3, 4, 5], [5, 6])])
def impl_PutChain.B6 : List Nat := [0, 1, 0, 4, 12, 31, 63, 127]
theorem impl_PutChain.tab6 : rtab .any (opsOf Tryz.f57 6) = impl_PutChain.T6 := by kernel_rfl
theorem impl_PutChain.bits6 : waitsOk impl_PutChain.T6.2 impl_PutChain.B6 = true := by kernel_rfl
theorem impl_PutChain.calls (k : Nat) (x : Int) (ja : Option Addr) (W : Nat) (m : List (S29)) (O : Option Addr) (P : Nat) (u : List (S99)) (z : Int) (A : Int) (B : ByteArray) (r1 : Int) (r2 : List (S29)) (r3 : Bool) (w : World) (Qa : Kd.C k29 w ja m.length m) (Ra : m.length ≤ W) (Sa : Kd.C k99 w O u.length u) (Ta : u.length ≤ P) (h : impl_PutChain.f k x m u z A B = some (r1, r2, r3)) :
  Calls Tryz.prog 57 #[.agg #[.int .i64 x, .slice ja m.length W], .agg #[.slice O u.length P, .int .i64 z, .int .i64 A, .string B]] w fun e w' => ∃ v1_ : Value, e = .returned (.tuple #[.agg #[.int .i64 r1, v1_], .bool r3]) ∧ Kd.S k29 29 w' w.heap.size (fun _ => True) v1_ r2 ∧ Below w.heap.size w w' := by
 have hu80 := Tryz.underlying80
 have hu29 := Tryz.underlying29
 have ka := Aside0.mk Qa
 have ua := Aside0.mk Ra
 clear Qa Ra
 have va := Aside0.mk Sa
 have wa := Aside0.mk Ta
 clear Sa Ta
 have s := Aside0.mk (Below.refl w.heap.size w)
 have H : ((impl_copyChain.f k x m).bind fun bt724 => ((impl_InChain.f k x m u).bind fun i => (if i ≥ 0 then (if 0 ≤ i then (if i < (m.length : Int) then ((impl_Merge.f ((rd_T29 m i).f0) ((rd_T29 m i).f1) ((rd_T29 m i).f2) ((rd_T29 m i).f3) u z A B).bind fun bt731 => (if i < (bt724.2.length : Int) then (some (bt724.1, (bt724.2.set (i : Int).toNat (⟨bt731.1, bt731.2.1, bt731.2.2.1, bt731.2.2.2⟩ : S29)), false)) else (none))) else (none)) else (none)) else ((impl_copyAlarm.f u z A B).bind fun bt738 => (if bt724.2.length < 2513169434916 then (some (bt724.1, (bt724.2 ++ [(⟨bt738.1, bt738.2.1, bt738.2.2.1, bt738.2.2.2⟩ : S29)]), true)) else (none)))))) = some (r1, r2, r3) := h
 clear h
 replace H := bi_ H; obtain ⟨⟨Q, r⟩, A3, H⟩ := H; (try dsimp only at H)
 replace H := bi_ H; obtain ⟨i, A4, H⟩ := H
 replace H := ie_ H; rcases H with ⟨c5, H⟩ | ⟨c5, H⟩
 ·
  have Bb : decide (0 ≤ i) = true := decide_eq_true c5
  clear c5
  replace H := id_ H; obtain ⟨Ld, H⟩ := H
  replace H := id_ H; obtain ⟨Md, H⟩ := H
  replace H := bi_ H; obtain ⟨⟨da, na, oa, pa⟩, A8, H⟩ := H; (try dsimp only at H)
  replace H := id_ H; obtain ⟨Nd, H⟩ := H
  obtain ⟨fb, hy_⟩ : ∃ y_ : List (S29), y_ = (r.set (i : Int).toNat (⟨da, na, oa, pa⟩ : S29)) := ⟨_, rfl⟩
  replace H : (some (Q, fb, false)) = some (r1, r2, r3) := hm_
  have rb := Aside0.mk hy_; clear hy_
  simp only [Option.some.injEq, Prod.mk.injEq] at H
  obtain ⟨rfl, rfl, rfl⟩ := H
  go_enter Tryz.func57, Tryz.ntmps57
  try go_wp2_with (first | ((with_reducible refine gd_ 2 rfl ?_); refine bv_ 2 #[.int .i64 x, .slice ja m.length W] 80 ?_; intro xa hg Wd t hb; have c := Aside0.mk (t); have Ha := gq_ hg s; replace s := st_ s hb; have Ua := Ge_.mk Ha.out; clear hb t hg) | ((with_reducible refine gd_ 3 rfl ?_); refine bv_ 3 #[.slice O u.length P, .int .i64 z, .int .i64 A, .string B] 29 ?_; intro q hg Xd t hb; have a := Aside0.mk (t); have Ia := gq_ hg s; replace s := st_ s hb; have Va := Ge_.mk Ia.out; obtain ⟨X, Y, c⟩ := nb_ c hg hb; clear hb t hg) | ((with_reducible refine gd_ 4 rfl ?_); refine bv_ 4 #[.int .i64 0, .slice none 0 0] 80 ?_; intro la hg Yd t hb; have l := Aside0.mk (t); have Ja := gq_ hg s; replace s := st_ s hb; have Wa := Ge_.mk Ja.out; obtain ⟨Z, aa, c⟩ := nb_ c hg hb; obtain ⟨ba, ca, a⟩ := nb_ a hg hb; clear hb t hg; have Zb := X.out; have ac := Y.out; have bc := Z.out; have cc := aa.out; obtain ⟨dc, ec, fc, gc⟩ := bc2_ c.out) | ((with_reducible refine gate_callee (f := 94) rfl ?_); refine gl_ (some 9) Tryz.func94 #[.agg #[.int .i64 x, .slice ja m.length W]] ?_; (with_reducible refine (impl_copyChain.calls k x _ _ m Q r _ ?side1 ?side2 A3.out).mono ?_); (case side1 => exact cp_ ((Kd.C_below ka.out s.out))); (case side2 => exact ua.out); rintro e Zd ⟨Cb, rfl, ia, hb⟩; refine ⟨_, rfl, ?_⟩; have b := Aside0.mk (Kd.S_lower (Kd.S_newB ia (pb_ a.out)) (below_size (hs_ s.out))); replace c := bk2_ c hb; replace a := bk2_ a hb; replace l := bk2_ l hb; replace s := st_ s hb; (try clear hb); (try clear hk); (try clear ia)) | ((with_reducible refine gd_ 6 rfl ?_); refine bv_ 6 #[.int .i64 0, .slice none 0 0] 80 ?_; intro R hg ae t hb; replace b := sb_ b hb; have d := Aside0.mk (t); have Ka := gq_ hg s; replace s := st_ s hb; have Xa := Ge_.mk Ka.out; obtain ⟨F, G, c⟩ := nb_ c hg hb; obtain ⟨I, J, a⟩ := nb_ a hg hb; obtain ⟨L, M, l⟩ := nb_ l hg hb; clear hb t hg; have hc := G.out; have ic := F.out; have jc := J.out; have kc := I.out; have lc := M.out; have mc := L.out; obtain ⟨nc, oc, pc, qc⟩ := bc2_ d.out; obtain ⟨gb, qa, Db⟩ := Kd.S_slice b.out; subst Db; obtain ⟨rc, sc, tc, uc⟩ := bc2_ c.out; have vc := ba.out; have wc := ca.out; obtain ⟨xc, yc, zc, Ac, Bc, Cc, Dc, Ec⟩ := bc4_ a.out) | ((with_reducible refine gate_callee (f := 64) rfl ?_); refine gl_ (some 13) Tryz.func64 #[.agg #[.int .i64 x, .slice ja m.length W], .slice O u.length P] ?_; (with_reducible refine (impl_InChain.calls k x _ _ m _ _ u i _ ?side1 ?side2 ?side3 ?side4 A4.out).mono ?_); (case side1 => exact Kd.C_below ka.out (hs_ s.out)); (case side2 => exact ua.out); (case side3 => exact Kd.C_below va.out (hs_ s.out)); (case side4 => exact wa.out); rintro e Fc ⟨rfl, hb⟩; refine ⟨_, rfl, ?_⟩; replace b := Aside0.mk (Kd.S_below (sy_ b.out d.out) hb); replace c := bk2_ c hb; replace a := bk2_ a hb; replace l := bk2_ l hb; replace d := by_ d #[.int .i64 Q, .slice gb r.length qa] hb; replace s := st_ s hb; (try clear hb); (try clear hk)))
  replace b := Aside0.mk (Kd.S_drew b.out)
  replace c := Aside0.mk (blk_drew c.out)
  replace a := Aside0.mk (blk_drew a.out)
  replace l := Aside0.mk (blk_drew l.out)
  replace d := Aside0.mk (blk_drew d.out)
  replace s := Aside0.mk (bd_ s.out)
  obtain ⟨Ya, Za⟩ : 0 ≤ (i : Int) ∧ i < (m.length : Int) := pq_
  obtain ⟨N, Ma, Na, Eb, E, T, U, V, za, Aa⟩ := at_T29 ka.out i Ya Za
  have ea := V
  have fa := U
  have ga := T
  have ha := E
  cases Eb
  replace E := c4_ s E T U V; clear T U V; obtain ⟨E, T, U, V⟩ := E
  have Ba := Aside0.mk Aa
  have ab := Aside0.mk za
  clear Aa za
  replace Ya := eq_true Ya; replace Za := eq_true Za
  refine start_ (n := 12) (S := fun w' => w'.cell? ⟨R, 0, none⟩ = some (.int .i64 Q) ∧ w'.cell? ⟨R, 1, none⟩ = some (.slice gb r.length qa) ∧ w'.cell? ⟨xa, 0, none⟩ = some (.int .i64 x) ∧ w'.cell? ⟨xa, 1, none⟩ = some (.slice (some N) m.length W) ∧ w'.cell? ⟨q, 0, none⟩ = some (.slice O u.length P) ∧ w'.cell? ⟨q, 1, none⟩ = some (.int .i64 z) ∧ w'.cell? ⟨q, 2, none⟩ = some (.int .i64 A) ∧ w'.cell? ⟨q, 3, none⟩ = some (.string B) ∧ w'.cell? (N.add ((i).toNat * 4)) = some (.slice Ma ((rd_T29 m i).f0).length Na) ∧ w'.cell? ⟨(N.add ((i).toNat * 4)).block, (N.add ((i).toNat * 4)).off + 1, none⟩ = some (.int .i64 ((rd_T29 m i).f1)) ∧ w'.cell? ⟨(N.add ((i).toNat * 4)).block, (N.add ((i).toNat * 4)).off + 2, none⟩ = some (.int .i64 ((rd_T29 m i).f2)) ∧ w'.cell? ⟨(N.add ((i).toNat * 4)).block, (N.add ((i).toNat * 4)).off + 3, none⟩ = some (.string ((rd_T29 m i).f3))) (ds := [11]) (b_ 0 12) (by kernel_rfl) rfl rfl ⟨bx_ d.out 0, bx_ d.out 1, bx_ c.out 0, bx_ c.out 1, bx_ a.out 0, bx_ a.out 1, bx_ a.out 2, bx_ a.out 3, ((s.out.cell (World.block_lt_of_cell? w _ ha)).trans ha), ((s.out.cell (World.block_lt_of_cell? w _ ga)).trans ga), ((s.out.cell (World.block_lt_of_cell? w _ fa)).trans fa), ((s.out.cell (World.block_lt_of_cell? w _ ea)).trans ea)⟩ (fun y => ?_); refine with_tabW impl_PutChain.tab4 impl_PutChain.bits4 (fun D bb => ?_)
  generalize Fc.drew = be at b c a l d s Ba E T U V y ⊢
  refine p_ D ?_
  refine qw_ 2 (m_ 12 5) D ?_
  refine qw_ 3 (m_ 12 13) D ?_
  refine qw_ 5 (m_ 12 45) D ?_
  refine qt_ 1 (m_ 12 47) D bb y ?_
  refine qt_ 4 (b_ 6 6) D bb y ?_
  refine p_ D ?_
  iterate 2 refine t0_ D bb y ?_
  refine o1_ 9 (b_ 10 2) D (fun K hK => ?_)
  refine gs_ Tryz.func24 #[.agg #[.slice Ma ((rd_T29 m i).f0).length Na, .int .i64 ((rd_T29 m i).f1), .int .i64 ((rd_T29 m i).f2), .string ((rd_T29 m i).f3)], .agg #[.slice O u.length P, .int .i64 z, .int .i64 A, .string B]] ?_
  with_reducible refine (impl_Merge.calls _ _ ((rd_T29 m i).f0) ((rd_T29 m i).f1) ((rd_T29 m i).f2) ((rd_T29 m i).f3) _ _ u z A B da na oa pa _ ?side1 ?side2 ?side3 ?side4 A8.out).mono ?_
  (case side1 => exact cp_ ((Kd.C_below Ba.out s.out)))
  (case side2 => exact ab.out)
  (case side3 => exact cp_ ((Kd.C_below va.out s.out)))
  (case side4 => exact wa.out)
  rintro e Gc ⟨Od, rfl, ia, hb⟩
  refine ⟨_, rfl, ?_⟩
  replace b := Aside0.mk (Kd.S_elder' (sp_ b.out) (Kd.R_base ia) hb)
  have La := rw_ ia s
  replace c := bk2_ c hb
  replace a := bk2_ a hb
  replace l := bk2_ l hb
  replace d := bk2_ d hb
  replace s := st_ s hb
  (try clear hb)
  (try clear hk)
  (try clear ia)
  obtain ⟨sb, tb⟩ : 0 ≤ (i : Int) ∧ (i : Int) < ((r.length : Int) : Int) := pq_
  obtain ⟨go10, Pd, ib, jb, gl10, cl10, HG10⟩ := Kd.S_form b.out (by omega)
  (first | cases ib | (injection ib with ea_ en_ ec_; (first | subst ea_ | (injection ea_ with ea_; subst ea_)); subst ec_; clear en_))
  have GB10 := Aside0.mk jb
  have GG10 := Aside0.mk HG10
  clear jb gl10 HG10
  obtain ⟨_, Qd, hcl10, hM10, ma, hfr10, _, _⟩ := Kd.S_elem b.out z29 (i : Int) sb tb
  obtain ⟨eb, rfl, Sb⟩ := k29_openM hM10
  have Tb : World.cell? _ ⟨go10, (i : Int).toNat * 4, none⟩ = some (eb) := ma 0 _ rfl
  have Ub : World.cell? _ ⟨go10, (i : Int).toNat * 4 + 1, none⟩ = some (.int .i64 ((rd_T29 r i).f1)) := ma 1 _ rfl
  have Vb : World.cell? _ ⟨go10, (i : Int).toNat * 4 + 2, none⟩ = some (.int .i64 ((rd_T29 r i).f2)) := ma 2 _ rfl
  have Wb : World.cell? _ ⟨go10, (i : Int).toNat * 4 + 3, none⟩ = some (.string ((rd_T29 r i).f3)) := ma 3 _ rfl
  have hf10_0 : World.frozen? _ ⟨go10, (i : Int).toNat * 4, none⟩ = false := hfr10 0
  have hf10_1 : World.frozen? _ ⟨go10, (i : Int).toNat * 4 + 1, none⟩ = false := hfr10 1
  have hf10_2 : World.frozen? _ ⟨go10, (i : Int).toNat * 4 + 2, none⟩ = false := hfr10 2
  have hf10_3 : World.frozen? _ ⟨go10, (i : Int).toNat * 4 + 3, none⟩ = false := hfr10 3
  clear hcl10 ma hfr10 hM10
  replace sb := eq_true sb; replace tb := eq_true tb
  obtain ⟨Ca, Da, kb⟩ := Kd.R_slice La.out
  (first | subst kb | (obtain ⟨rfl, rfl⟩ := si_ kb))
  have HX30 := Aside0.mk (show Kd.S k29 29 _ w.heap.size (fun k_ => ((fun k_ => k_ ≠ q)) k_ ∧ ¬ ((fun k_ => some k_ = (.slice Ca da.length Da : Value).ownBlock)) k_) (.slice (some ⟨go10, 0, none⟩) r.length qa) r from (Kd.S_mono b.out (fun k_ hk => ⟨hk.1.2, fun e_ => hk.2 e_⟩)))
  obtain ⟨oki30, Rd, hcl30, hM30, ub, hfr30, hoki30, hH30⟩ := Kd.S_elem HX30.out z29 (i : Int) (of_decide_eq_true (by with_reducible assumption)) (by have h_ : (i : Int) < ((r.length : Int) : Int) := of_decide_eq_true (by with_reducible assumption); first | exact h_ | (have e_ := (Kd.S_reads' b.out).1; omega) | simpa using h_)
  obtain ⟨Xb, rfl, Yb⟩ := k29_openM hM30
  have HP30 := (Kd.S_seg hH30 (of_decide_eq_true (by with_reducible assumption)) (by have h_ : (i : Int) < ((r.length : Int) : Int) := of_decide_eq_true (by with_reducible assumption); first | exact h_ | (have e_ := (Kd.S_reads' b.out).1; omega) | simpa using h_) (seg := [.slice Ca da.length Da, .int .i64 na, .int .i64 oa, .string pa]) (j := 0) (show 4 ≤ 4 from by decide) (x' := (⟨da, na, oa, pa⟩ : S29)) (okg := (fun k_ => some k_ = (.slice Ca da.length Da : Value).ownBlock)) (okp := fun k_ => oki30 k_ ∨ ((fun k_ => some k_ = (.slice Ca da.length Da : Value).ownBlock)) k_) (k29_mkM _ _ _ (⟨da, na, oa, pa⟩ : S29) (Kd.R_mono (Kd.R_tight rfl (Kd.R_mono (ok' := fun k_ => ((fun k_ => k_ ≠ q)) k_ ∧ k_ ≠ go10) (Kd.R_types (Kd.R_apart' (La.out) (Kd.S_typed b.out) (by decide)) a.out (by decide)) (fun k_ hk => ⟨hk.2, fun e_ => (hk.1.2) (by rw [e_]; rfl)⟩))) (fun _ h_ => Or.inr (h_)))) (fun _ hk => hk) (fun k_ hk_ => ((Kd.R_mono (ok' := fun k_ => ((fun k_ => k_ ≠ q)) k_ ∧ k_ ≠ go10) (Kd.R_types (Kd.R_apart' (La.out) (Kd.S_typed b.out) (by decide)) a.out (by decide)) (fun k_ hk => ⟨hk.2, fun e_ => (hk.1.2) (by rw [e_]; rfl)⟩))).1 k_ hk_.symm)).1
  rw [← rb.out] at HP30
  have HQ30 := Aside0.mk HP30
  clear hcl30 ub hfr30 hM30 HP30
  refine ho_ hK ⟨bx_ d.out 0, bx_ d.out 1, bx_ c.out 0, bx_ c.out 1, bx_ a.out 0, bx_ a.out 1, bx_ a.out 2, bx_ a.out 3, ((s.out.cell (World.block_lt_of_cell? w _ ha)).trans ha), ((s.out.cell (World.block_lt_of_cell? w _ ga)).trans ga), ((s.out.cell (World.block_lt_of_cell? w _ fa)).trans fa), ((s.out.cell (World.block_lt_of_cell? w _ ea)).trans ea)⟩ (fun y => ?_)
  refine p_ D ?_
  refine l1_ 11 (b_ 12 0) D (fun K hK => ?_)
  refine skip_ (w1 := ?_) (by rfl) rfl ?_ ?_
  rotate_left
  ·
   go_simp
   rfl
  refine hK.out _ _ ?_
  clear hK K
  refine done_ (done_of D.out (by kernel_rfl)) ?_
  generalize hw_ : ((((Gc.setCell ⟨go10, (i : Int).toNat * 4, none⟩ (.slice Ca da.length Da)).setCell ⟨go10, (i : Int).toNat * 4 + 1, none⟩ (.int .i64 na)).setCell ⟨go10, (i : Int).toNat * 4 + 2, none⟩ (.int .i64 oa)).setCell ⟨go10, (i : Int).toNat * 4 + 3, none⟩ (.string pa)) = Pa
  have Fb : Aside0 (Kd.S k29 29 Pa w.heap.size (fun k_ => k_ ≠ q) (.slice (some ⟨go10, 0, none⟩) r.length qa) fb) := ⟨by rw [← hw_]; exact (by (with_reducible repeat (first | apply Kd.S_alloc | apply Kd.S_drewN | apply Kd.S_drew)); exact HQ30.out)⟩
  have Gb : Aside0 (Pa.heap[xa]? = some (.cells #[.int .i64 x, .slice (some N) m.length W] 80 (0, 0))) := ⟨by rw [← hw_]; exact (by (with_reducible repeat (first | refine kn_ ?_ _ | refine kd_ ?_ | refine ka_ ?_ _)); refine blk_far ?_ (by have h_ := Kd.S_ne b.out c.out (by decide); intro e_; exact h_ (by rw [e_]; rfl)) _; (with_reducible repeat (first | refine kn_ ?_ _ | refine kd_ ?_ | refine ka_ ?_ _)); refine blk_far ?_ (by have h_ := Kd.S_ne b.out c.out (by decide); intro e_; exact h_ (by rw [e_]; rfl)) _; (with_reducible repeat (first | refine kn_ ?_ _ | refine kd_ ?_ | refine ka_ ?_ _)); refine blk_far ?_ (by have h_ := Kd.S_ne b.out c.out (by decide); intro e_; exact h_ (by rw [e_]; rfl)) _; (with_reducible repeat (first | refine kn_ ?_ _ | refine kd_ ?_ | refine ka_ ?_ _)); refine blk_far ?_ (by have h_ := Kd.S_ne b.out c.out (by decide); intro e_; exact h_ (by rw [e_]; rfl)) _; (with_reducible repeat (first | refine kn_ ?_ _ | refine kd_ ?_ | refine ka_ ?_ _)); exact c.out)⟩
  have Hb : Aside0 (Pa.heap[q]? = some (.cells #[.slice O u.length P, .int .i64 z, .int .i64 A, .string B] 29 (0, 0))) := ⟨by rw [← hw_]; exact (by (with_reducible repeat (first | refine kn_ ?_ _ | refine kd_ ?_ | refine ka_ ?_ _)); refine blk_far ?_ (by have h_ := Kd.S_away b.out (fun _ hk => hk.1.2); intro e_; exact h_ (by rw [e_]; rfl)) _; (with_reducible repeat (first | refine kn_ ?_ _ | refine kd_ ?_ | refine ka_ ?_ _)); refine blk_far ?_ (by have h_ := Kd.S_away b.out (fun _ hk => hk.1.2); intro e_; exact h_ (by rw [e_]; rfl)) _; (with_reducible repeat (first | refine kn_ ?_ _ | refine kd_ ?_ | refine ka_ ?_ _)); refine blk_far ?_ (by have h_ := Kd.S_away b.out (fun _ hk => hk.1.2); intro e_; exact h_ (by rw [e_]; rfl)) _; (with_reducible repeat (first | refine kn_ ?_ _ | refine kd_ ?_ | refine ka_ ?_ _)); refine blk_far ?_ (by have h_ := Kd.S_away b.out (fun _ hk => hk.1.2); intro e_; exact h_ (by rw [e_]; rfl)) _; (with_reducible repeat (first | refine kn_ ?_ _ | refine kd_ ?_ | refine ka_ ?_ _)); exact a.out)⟩
  have Ib : Aside0 (Pa.heap[la]? = some (.cells #[.int .i64 0, .slice none 0 0] 80 (0, 0))) := ⟨by rw [← hw_]; exact (by (with_reducible repeat (first | refine kn_ ?_ _ | refine kd_ ?_ | refine ka_ ?_ _)); refine blk_far ?_ (by have h_ := Kd.S_ne b.out l.out (by decide); intro e_; exact h_ (by rw [e_]; rfl)) _; (with_reducible repeat (first | refine kn_ ?_ _ | refine kd_ ?_ | refine ka_ ?_ _)); refine blk_far ?_ (by have h_ := Kd.S_ne b.out l.out (by decide); intro e_; exact h_ (by rw [e_]; rfl)) _; (with_reducible repeat (first | refine kn_ ?_ _ | refine kd_ ?_ | refine ka_ ?_ _)); refine blk_far ?_ (by have h_ := Kd.S_ne b.out l.out (by decide); intro e_; exact h_ (by rw [e_]; rfl)) _; (with_reducible repeat (first | refine kn_ ?_ _ | refine kd_ ?_ | refine ka_ ?_ _)); refine blk_far ?_ (by have h_ := Kd.S_ne b.out l.out (by decide); intro e_; exact h_ (by rw [e_]; rfl)) _; (with_reducible repeat (first | refine kn_ ?_ _ | refine kd_ ?_ | refine ka_ ?_ _)); exact l.out)⟩
  have Jb : Aside0 (Pa.heap[R]? = some (.cells #[.int .i64 Q, .slice (some ⟨go10, 0, none⟩) r.length qa] 80 (0, 0))) := ⟨by rw [← hw_]; exact (by (with_reducible repeat (first | refine kn_ ?_ _ | refine kd_ ?_ | refine ka_ ?_ _)); refine blk_far ?_ (by have h_ := Kd.S_ne b.out d.out (by decide); intro e_; exact h_ (by rw [e_]; rfl)) _; (with_reducible repeat (first | refine kn_ ?_ _ | refine kd_ ?_ | refine ka_ ?_ _)); refine blk_far ?_ (by have h_ := Kd.S_ne b.out d.out (by decide); intro e_; exact h_ (by rw [e_]; rfl)) _; (with_reducible repeat (first | refine kn_ ?_ _ | refine kd_ ?_ | refine ka_ ?_ _)); refine blk_far ?_ (by have h_ := Kd.S_ne b.out d.out (by decide); intro e_; exact h_ (by rw [e_]; rfl)) _; (with_reducible repeat (first | refine kn_ ?_ _ | refine kd_ ?_ | refine ka_ ?_ _)); refine blk_far ?_ (by have h_ := Kd.S_ne b.out d.out (by decide); intro e_; exact h_ (by rw [e_]; rfl)) _; (with_reducible repeat (first | refine kn_ ?_ _ | refine kd_ ?_ | refine ka_ ?_ _)); exact d.out)⟩
  have Kb : Aside0 (Below w.heap.size w Pa) := ⟨by rw [← hw_]; exact (by repeat (first | (with_reducible first | exact s.out | apply ba_ | apply bn_ | apply bd_ | refine below_set ?_ GB10.out | refine below_set ?_ GB10.out | refine below_set ?_ GB10.out | refine below_set ?_ GB10.out | refine below_set ?_ Ua.out | refine below_set ?_ Va.out | refine below_set ?_ Wa.out | refine below_set ?_ Xa.out) | exact s.out))⟩
  clear hw_
  (try clear b)
  (try clear c)
  (try clear a)
  (try clear l)
  (try clear d)
  (try clear s)
  have b := Fb
  have c := Gb
  have a := Hb
  have l := Ib
  have d := Jb
  have s := Kb
  clear Fb Gb Hb Ib Jb Kb
  obtain ⟨Hc, Ic, Jc, Kc⟩ := bc2_ d.out
  obtain ⟨Lc, Mc, Nc, Oc⟩ := bc2_ l.out
  try go_wp2
  refine bodyPost_ret (results_ct rfl _ _ la 80 #[.int .i64 Q, .slice (some ⟨go10, 0, none⟩) r.length qa] (0, 0) _ rfl (bp_ l.out) Tryz.underlying80 rfl (by kernel_rfl)) rfl ?_
  exact ⟨_, rr_, Kd.S_mono (sy_ b.out l.out) (fun _ hk => trivial), hs_ s.out⟩
 have Bb : decide (0 ≤ i) = false := decide_eq_false c5
 clear c5
 replace H := bi_ H; obtain ⟨⟨ra, Ea, Fa, Ga⟩, Pc, H⟩ := H; (try dsimp only at H)
 replace H := im_ H; obtain ⟨vb, H⟩ := H
 obtain ⟨cb, hy_⟩ : ∃ y_ : List (S29), y_ = (r ++ [(⟨ra, Ea, Fa, Ga⟩ : S29)]) := ⟨_, rfl⟩
 replace H : (some (Q, cb, true)) = some (r1, r2, r3) := hm_
 have wb := Aside0.mk hy_; clear hy_
 simp only [Option.some.injEq, Prod.mk.injEq] at H
 obtain ⟨rfl, rfl, rfl⟩ := H
 go_enter Tryz.func57, Tryz.ntmps57
 try go_wp2_with (first | ((with_reducible refine gd_ 2 rfl ?_); refine bv_ 2 #[.int .i64 x, .slice ja m.length W] 80 ?_; intro xa hg ce t hb; have c := Aside0.mk (t); have Ha := gq_ hg s; replace s := st_ s hb; have Ua := Ge_.mk Ha.out; clear hb t hg) | ((with_reducible refine gd_ 3 rfl ?_); refine bv_ 3 #[.slice O u.length P, .int .i64 z, .int .i64 A, .string B] 29 ?_; intro q hg de t hb; have a := Aside0.mk (t); have Ia := gq_ hg s; replace s := st_ s hb; have Va := Ge_.mk Ia.out; obtain ⟨X, Y, c⟩ := nb_ c hg hb; clear hb t hg) | ((with_reducible refine gd_ 4 rfl ?_); refine bv_ 4 #[.int .i64 0, .slice none 0 0] 80 ?_; intro la hg ee t hb; have l := Aside0.mk (t); have Ja := gq_ hg s; replace s := st_ s hb; have Wa := Ge_.mk Ja.out; obtain ⟨Z, aa, c⟩ := nb_ c hg hb; obtain ⟨ba, ca, a⟩ := nb_ a hg hb; clear hb t hg; have Qc := X.out; have Rc := Y.out; have Sc := Z.out; have Tc := aa.out; obtain ⟨Uc, Vc, Wc, Xc⟩ := bc2_ c.out) | ((with_reducible refine gate_callee (f := 94) rfl ?_); refine gl_ (some 9) Tryz.func94 #[.agg #[.int .i64 x, .slice ja m.length W]] ?_; (with_reducible refine (impl_copyChain.calls k x _ _ m Q r _ ?side1 ?side2 A3.out).mono ?_); (case side1 => exact cp_ ((Kd.C_below ka.out s.out))); (case side2 => exact ua.out); rintro e fe ⟨Cb, rfl, ia, hb⟩; refine ⟨_, rfl, ?_⟩; have b := Aside0.mk (Kd.S_lower (Kd.S_newB ia (pb_ a.out)) (below_size (hs_ s.out))); replace c := bk2_ c hb; replace a := bk2_ a hb; replace l := bk2_ l hb; replace s := st_ s hb; (try clear hb); (try clear hk); (try clear ia)) | ((with_reducible refine gd_ 6 rfl ?_); refine bv_ 6 #[.int .i64 0, .slice none 0 0] 80 ?_; intro R hg ge t hb; replace b := sb_ b hb; have d := Aside0.mk (t); have Ka := gq_ hg s; replace s := st_ s hb; have Xa := Ge_.mk Ka.out; obtain ⟨F, G, c⟩ := nb_ c hg hb; obtain ⟨I, J, a⟩ := nb_ a hg hb; obtain ⟨L, M, l⟩ := nb_ l hg hb; clear hb t hg; have Yc := G.out; have Zc := F.out; have ad := J.out; have bd := I.out; have cd := M.out; have dd := L.out; obtain ⟨ed, fd, gd, hd⟩ := bc2_ d.out; obtain ⟨sa, ta, Lb⟩ := Kd.S_slice b.out; subst Lb; obtain ⟨jd, kd, ld, md⟩ := bc2_ c.out; have nd := ba.out; have od := ca.out; obtain ⟨pd, qd, rd, sd, td, ud, vd, wd⟩ := bc4_ a.out) | ((with_reducible refine gate_callee (f := 64) rfl ?_); refine gl_ (some 13) Tryz.func64 #[.agg #[.int .i64 x, .slice ja m.length W], .slice O u.length P] ?_; (with_reducible refine (impl_InChain.calls k x _ _ m _ _ u i _ ?side1 ?side2 ?side3 ?side4 A4.out).mono ?_); (case side1 => exact Kd.C_below ka.out (hs_ s.out)); (case side2 => exact ua.out); (case side3 => exact Kd.C_below va.out (hs_ s.out)); (case side4 => exact wa.out); rintro e xd ⟨rfl, hb⟩; refine ⟨_, rfl, ?_⟩; replace b := Aside0.mk (Kd.S_below (sy_ b.out d.out) hb); replace c := bk2_ c hb; replace a := bk2_ a hb; replace l := bk2_ l hb; replace d := by_ d #[.int .i64 Q, .slice sa r.length ta] hb; replace s := st_ s hb; (try clear hb); (try clear hk)))
 replace b := Aside0.mk (Kd.S_drew b.out)
 replace c := Aside0.mk (blk_drew c.out)
 replace a := Aside0.mk (blk_drew a.out)
 replace l := Aside0.mk (blk_drew l.out)
 replace d := Aside0.mk (blk_drew d.out)
 replace s := Aside0.mk (bd_ s.out)
 refine start_ (n := 8) (S := fun w' => w'.cell? ⟨R, 0, none⟩ = some (.int .i64 Q) ∧ w'.cell? ⟨R, 1, none⟩ = some (.slice sa r.length ta) ∧ w'.cell? ⟨q, 0, none⟩ = some (.slice O u.length P) ∧ w'.cell? ⟨q, 1, none⟩ = some (.int .i64 z) ∧ w'.cell? ⟨q, 2, none⟩ = some (.int .i64 A) ∧ w'.cell? ⟨q, 3, none⟩ = some (.string B)) (ds := [7]) (b_ 0 8) (by kernel_rfl) rfl rfl ⟨bx_ d.out 0, bx_ d.out 1, bx_ a.out 0, bx_ a.out 1, bx_ a.out 2, bx_ a.out 3⟩ (fun y => ?_); refine with_tabW impl_PutChain.tab6 impl_PutChain.bits6 (fun D bb => ?_)
 generalize xd.drew = he at b c a l d s y ⊢
 refine p_ D ?_
 iterate 2 refine t0_ D bb y ?_
 refine o1_ 3 (b_ 4 4) D (fun K hK => ?_)
 refine gs_ Tryz.func58 #[.agg #[.slice O u.length P, .int .i64 z, .int .i64 A, .string B]] ?_
 with_reducible refine (impl_copyAlarm.calls _ _ u z A B ra Ea Fa Ga _ ?side1 ?side2 Pc.out).mono ?_
 (case side1 => exact cp_ ((Kd.C_below va.out s.out)))
 (case side2 => exact wa.out)
 rintro e ie ⟨Sd, rfl, ia, hb⟩
 refine ⟨_, rfl, ?_⟩
 replace b := Aside0.mk (Kd.S_elder' (sp_ b.out) (Kd.R_base ia) hb)
 have ya := rw_ ia s
 replace c := bk2_ c hb
 replace a := bk2_ a hb
 replace l := bk2_ l hb
 replace d := bk2_ d hb
 replace s := st_ s hb
 (try clear hb)
 (try clear hk)
 (try clear ia)
 obtain ⟨lb, mb, nb⟩ := Kd.R_slice ya.out
 (first | subst nb | (obtain ⟨rfl, rfl⟩ := si_ nb))
 refine ho_ hK (f2_ d.out (e4_ a.out)) (fun y => ?_)
 refine o1_ 4 (b_ 5 3) D (fun K hK => ?_)
 refine value_ (w1 := ?_) (v := ?_) (by rfl) rfl ?_ ?_
 rotate_left 2
 ·
  go_simp
  constructor
  ·
   rfl
  rfl
 refine ho_ hK ⟨(blk_cell (blk_alloc d.out _) 0).trans rfl, (blk_cell (blk_alloc d.out _) 1).trans rfl, (blk_cell (blk_alloc a.out _) 0).trans rfl, (blk_cell (blk_alloc a.out _) 1).trans rfl, (blk_cell (blk_alloc a.out _) 2).trans rfl, (blk_cell (blk_alloc a.out _) 3).trans rfl⟩ (fun y => ?_)
 refine o1_ 5 (b_ 6 2) D (fun K hK => ?_)
 refine Kd.S_append_step k29 (w0 := w) w.heap.size (by rfl) (.tmp 29) (.tmp 32) 40 29 (.agg #[(.slice none 0 0), (.int .i64 0), (.int .i64 0), (.string ⟨#[]⟩)]) 56 rfl Tryz.underlying40 info29 rfl (by decide) (by omega) (.slice sa r.length ta) r (⟨ra, Ea, Fa, Ga⟩ : S29) [.slice lb ra.length mb, .int .i64 Ea, .int .i64 Fa, .string Ga] (fun k_ => k_ ≠ q) (fun k_ => some k_ = (.slice lb ra.length mb : Value).ownBlock) rfl rfl ?aP (fun k_ hk_ => ((Kd.R_mono (ok' := fun k_ => ((fun k_ => k_ ≠ q)) k_ ∧ some k_ ≠ (.slice sa r.length ta : Value).ownBlock) (Kd.R_types (Kd.R_apart' (ya.out) (Kd.S_typed b.out) (by decide)) a.out (by decide)) (fun k_ hk => ⟨hk.2, hk.1.2⟩))).1 k_ hk_.symm) ?aF ?aO ?aB ?aS ?aL ?_
 (case aP => exact k29_mkM _ _ _ (⟨ra, Ea, Fa, Ga⟩ : S29) (Kd.R_mono (Kd.R_tight rfl (Kd.R_mono (ok' := fun k_ => ((fun k_ => k_ ≠ q)) k_ ∧ some k_ ≠ (.slice sa r.length ta : Value).ownBlock) (Kd.R_types (Kd.R_apart' (ya.out) (Kd.S_typed b.out) (by decide)) a.out (by decide)) (fun k_ hk => ⟨hk.2, hk.1.2⟩))) (fun _ h_ => h_)))
 (case aB => exact (hs_ s.out))
 (case aF => exact (fun k_ hk => Kd.freshB (g := q) (o := .cells #[.slice O u.length P, .int .i64 z, .int .i64 A, .string B] 29 (0, 0)) (pb_ a.out) k_ hk))
 (case aO => exact (Kd.S_mono (sp_ b.out) (fun k_ hk => ⟨hk.1.2, fun e_ => hk.2 e_⟩)))
 (case aS => exact (below_size (hs_ s.out)))
 (case aL => have := vb.out; omega)
 intro Td yd ho hb hg hat
 rw [← wb.out] at ho
 replace c := Aside0.mk (blk_grown (bq_ c.out) hg (Kd.S_ne b.out c.out (by decide)))
 replace a := Aside0.mk (blk_grown (bq_ a.out) hg (Kd.S_away b.out (fun _ hk => hk.1.2)))
 replace l := Aside0.mk (blk_grown (bq_ l.out) hg (Kd.S_ne b.out l.out (by decide)))
 replace d := Aside0.mk (blk_grown (bq_ d.out) hg (Kd.S_ne b.out d.out (by decide)))
 replace s := Aside0.mk (hb)
 have db := Aside0.mk (ho)
 clear b ya
 clear ho hb hg hat
 obtain ⟨ob, pb, qb⟩ := Kd.S_slice db.out
 (first | subst qb | (obtain ⟨rfl, rfl⟩ := si_ qb))
 refine ho_ hK (f2_ d.out (e4_ a.out)) (fun y => ?_)
 refine p_ D ?_
 refine l1_ 7 (b_ 8 0) D (fun K hK => ?_)
 have Ud : yd.cell? ⟨R, 1, none⟩ = some (.slice sa r.length ta) := bx_ d.out 1
 have zd := blk_frozen d.out 1
 have Mb := F.out
 have Nb := I.out
 have Ob := L.out
 have Pb := G.out
 have Qb := J.out
 have Rb := M.out
 refine skip_ (w1 := ?_) (by rfl) rfl ?_ ?_
 rotate_left
 ·
  go_simp
  rfl
 refine hK.out _ _ ?_
 clear hK K
 refine done_ (done_of D.out (by kernel_rfl)) ?_
 obtain ⟨Ad, Bd, Cd, Dd⟩ := bc2_ d.out
 obtain ⟨Ed, Fd, Gd, Hd⟩ := bc2_ l.out
 try go_wp2
 refine bodyPost_ret (results_ct rfl _ _ la 80 #[.int .i64 Q, .slice ob cb.length pb] (0, 0) _ rfl (bp_ l.out) Tryz.underlying80 rfl (by kernel_rfl)) rfl ?_
 exact ⟨_, rr_, Kd.S_mono (sf_ la (Kd.S_far (p := ⟨R, 1, none⟩) (Kd.S_types (Kd.S_types db.out d.out (by decide)) l.out (by decide)) (fun _ hk => hk.1.2) (.slice ob cb.length pb)) (fun _ hk => hk.2)) (fun _ hk => trivial), hs_ s.out⟩
mutual
def impl_PutIn.l0 : Nat → Int → Int → List (S99) → Int → Int → ByteArray → Int → Int → List (S80) → Option (Int × Int × (List (S80)) × Bool)
 | 0, _, _, _, _, _, _, _, _, _ => none
 | k + 1, x7, x11, x749000, x749001, x749002, x749003, x756000, x756001, x756002 => if x11 < (x756002.length : Int) then (if 0 ≤ x11 then (impl_PutIn.j1 k x7 x11 (decide (((rd_T80 x756002 x11).f0) ≤ x7)) x749000 x749001 x749002 x749003 x756000 x756001 x756002) else (none)) else (impl_PutIn.j1 k x7 x11 false x749000 x749001 x749002 x749003 x756000 x756001 x756002)
def impl_PutIn.j1 : Nat → Int → Int → Bool → List (S99) → Int → Int → ByteArray → Int → Int → List (S80) → Option (Int × Int × (List (S80)) × Bool)
 | 0, _, _, _, _, _, _, _, _, _, _ => none
 | k + 1, x7, x11, x58, x749000, x749001, x749002, x749003, x756000, x756001, x756002 => if x58 = true then (impl_PutIn.l0 k x7 (wrap64 (x11 + 1)) x749000 x749001 x749002 x749003 x756000 x756001 x756002) else ((impl_copyAlarm.f x749000 x749001 x749002 x749003).bind fun bt767 => (if 0 ≤ x11 then (if x11 ≤ (x756002.length : Int) then ((some (x756002.drop (x11 : Int).toNat : List (S80))).bind fun y780 => ((some (x756002.take (x11 : Int).toNat : List (S80))).bind fun y777 => (if ([] : List (S80)).length + y777.length < 4398046511104 then ((some (([] : List (S80)) ++ y777 : List (S80))).bind fun y784 => (if y784.length < 4398046511104 then ((some (y784 ++ [(⟨x7, (([(⟨bt767.1, bt767.2.1, bt767.2.2.1, bt767.2.2.2⟩ : S29)] : List (S29)))⟩ : S80)] : List (S80))).bind fun y788 => (if y788.length + y780.length < 4398046511104 then (some (x756000, x756001, (y788 ++ y780), true)) else (none))) else (none))) else (none)))) else (none)) else (none)))
end
def impl_PutIn.f (k : Nat) (a0_0 : Int) (a0_1 : Int) (l0_2 : List (S80)) (l1_0 : List (S99)) (a1_1 : Int) (a1_2 : Int) (a1_3 : ByteArray) : Option (Int × Int × (List (S80)) × Bool) := (impl_copyPart.f k a0_0 a0_1 l0_2).bind fun bt750 => ((impl_Finger.f k l1_0).bind fun t756 => ((impl_chainOf.f k a0_0 a0_1 l0_2 t756).bind fun t757 => (if t757 ≥ 0 then (if 0 ≤ t757 then (if t757 < (l0_2.length : Int) then ((impl_PutChain.f k ((rd_T80 l0_2 t757).f0) ((rd_T80 l0_2 t757).f1) l1_0 a1_1 a1_2 a1_3).bind fun bt759 => (if t757 < (bt750.2.2.length : Int) then (some (bt750.1, wrap64 (bt750.2.1 + 1), (bt750.2.2.set (t757 : Int).toNat (⟨bt759.1, bt759.2.1⟩ : S80)), bt759.2.2)) else (none))) else (none)) else (none)) else (impl_PutIn.l0 k t756 0 l1_0 a1_1 a1_2 a1_3 bt750.1 (wrap64 (bt750.2.1 + 1)) bt750.2.2))))
def impl_PutIn.T6 : Bool × List (List Nat × List Nat) := (true, [([], []), ([0], [0]), ([], []), ([1, 2], [1, 2]), ([3], [3]), ([], []), ([4, 5], [4, 5]), ([6], [6]), ([7], [7]), ([7], [7]), ([], []), ([10, 8, 6, 0, 1, 2, 3, 4, 5, 6, 7, 8, 10], [8, 10]), ([9, 11, 0, 1, 2, 3, 4, 5, 6, 7, 8, 9, 10, 11], [9])])
def impl_PutIn.B6 : List Nat := [0, 1, 0, 7, 15, 0, 63, 127, 255, 255, 0, 1535, 4095]
theorem impl_PutIn.tab6 : rtab .any (opsOf Tryz.f8 6) = impl_PutIn.T6 := by kernel_rfl
theorem impl_PutIn.bits6 : waitsOk impl_PutIn.T6.2 impl_PutIn.B6 = true := by kernel_rfl
def impl_PutIn.T13 : Bool × List (List Nat × List Nat) := (true, [([], []), ([0], [0]), ([], []), ([1, 2], [1, 2]), ([3], [3]), ([], []), ([5], [5]), ([4, 6, 4], [4, 6]), ([], []), ([8], [8]), ([], []), ([9, 10], [9, 10]), ([7, 11, 7], [7, 11]), ([0, 1, 2, 3, 4, 5, 6, 7, 8, 9, 10, 11, 12], []), ([13, 12, 12, 0, 1, 2, 3, 4, 5, 6, 7, 8, 9, 10, 11, 12], [12, 13])])
def impl_PutIn.B13 : List Nat := [0, 1, 0, 7, 15, 0, 32, 127, 0, 256, 0, 1792, 4095, 8191, 16383]
theorem impl_PutIn.tab13 : rtab .any (opsOf Tryz.f8 13) = impl_PutIn.T13 := by kernel_rfl
theorem impl_PutIn.bits13 : waitsOk impl_PutIn.T13.2 impl_PutIn.B13 = true := by kernel_rfl
theorem impl_PutIn.calls (k : Nat) (aa : Int) (ba : Int) (Qa : Option Addr) (Da : Nat) (D : List (S80)) (ca : Option Addr) (da : Nat) (G : List (S99)) (T : Int) (U : Int) (V : ByteArray) (r1 : Int) (r2 : Int) (r3 : List (S80)) (r4 : Bool) (w : World) (Gc : Kd.C k80 w Qa D.length D) (Hc : D.length ≤ Da) (Ic : Kd.C k99 w ca G.length G) (Jc : G.length ≤ da) (h : impl_PutIn.f k aa ba D G T U V = some (r1, r2, r3, r4)) :
  Calls Tryz.prog 8 #[.agg #[.int .i64 aa, .int .i64 ba, .slice Qa D.length Da], .agg #[.slice ca G.length da, .int .i64 T, .int .i64 U, .string V]] w fun e w' => ∃ v2_ : Value, e = .returned (.tuple #[.agg #[.int .i64 r1, .int .i64 r2, v2_], .bool r4]) ∧ Kd.S k80 80 w' w.heap.size (fun _ => True) v2_ r3 ∧ Below w.heap.size w w' := by
 have hu26 := Tryz.underlying26
 have hu29 := Tryz.underlying29
 have hu80 := Tryz.underlying80
 have vb := Aside0.mk Gc
 have Lb := Aside0.mk Hc
 clear Gc Hc
 have wb := Aside0.mk Ic
 have xb := Aside0.mk Jc
 clear Ic Jc
 have F := Aside0.mk (Below.refl w.heap.size w)
 have H : ((impl_copyPart.f k aa ba D).bind fun bt750 => ((impl_Finger.f k G).bind fun I => ((impl_chainOf.f k aa ba D I).bind fun y => (if y ≥ 0 then (if 0 ≤ y then (if y < (D.length : Int) then ((impl_PutChain.f k ((rd_T80 D y).f0) ((rd_T80 D y).f1) G T U V).bind fun bt759 => (if y < (bt750.2.2.length : Int) then (some (bt750.1, wrap64 (bt750.2.1 + 1), (bt750.2.2.set (y : Int).toNat (⟨bt759.1, bt759.2.1⟩ : S80)), bt759.2.2)) else (none))) else (none)) else (none)) else (impl_PutIn.l0 k I 0 G T U V bt750.1 (wrap64 (bt750.2.1 + 1)) bt750.2.2))))) = some (r1, r2, r3, r4) := h
 clear h
 replace H := bi_ H; obtain ⟨⟨X, Y, q⟩, A3, H⟩ := H; (try dsimp only at H)
 replace H := bi_ H; obtain ⟨I, A4, H⟩ := H
 replace H := bi_ H; obtain ⟨y, A5, H⟩ := H
 replace H := ie_ H; rcases H with ⟨c6, H⟩ | ⟨c6, H⟩
 ·
  have te : decide (0 ≤ y) = true := decide_eq_true c6
  clear c6
  replace H := id_ H; obtain ⟨gj, H⟩ := H
  replace H := id_ H; obtain ⟨hj, H⟩ := H
  replace H := bi_ H; obtain ⟨⟨jb, Ra, Jb⟩, A9, H⟩ := H; (try dsimp only at H)
  replace H := id_ H; obtain ⟨Hf, H⟩ := H
  obtain ⟨Dd, hy_⟩ : ∃ y_ : List (S80), y_ = (q.set (y : Int).toNat (⟨jb, Ra⟩ : S80)) := ⟨_, rfl⟩
  replace H : (some (X, wrap64 (Y + 1), Dd, Jb)) = some (r1, r2, r3, r4) := hm_
  have Pd := Aside0.mk hy_; clear hy_
  simp only [Option.some.injEq, Prod.mk.injEq] at H
  obtain ⟨rfl, rfl, rfl, rfl⟩ := H
  go_enter Tryz.func8, Tryz.ntmps8
  try go_wp2_with (first | ((with_reducible refine gd_ 2 rfl ?_); refine bv_ 2 #[.int .i64 aa, .int .i64 ba, .slice Qa D.length Da] 26 ?_; intro W hg tj J hb; have b := Aside0.mk (J); have kc := gq_ hg F; replace F := st_ F hb; have Qd := Ge_.mk kc.out; clear hb J hg) | ((with_reducible refine gd_ 3 rfl ?_); refine bv_ 3 #[.slice ca G.length da, .int .i64 T, .int .i64 U, .string V] 29 ?_; intro m hg uj J hb; have a := Aside0.mk (J); have lc := gq_ hg F; replace F := st_ F hb; have Rd := Ge_.mk lc.out; obtain ⟨Va, Wa, b⟩ := nb_ b hg hb; clear hb J hg) | ((with_reducible refine gd_ 4 rfl ?_); refine bv_ 4 #[.int .i64 0, .int .i64 0, .slice none 0 0] 26 ?_; intro ja hg vj J hb; have l := Aside0.mk (J); have mc := gq_ hg F; replace F := st_ F hb; have Sd := Ge_.mk mc.out; obtain ⟨Xa, Ya, b⟩ := nb_ b hg hb; obtain ⟨Za, ab, a⟩ := nb_ a hg hb; clear hb J hg; have If := Va.out; have Jf := Wa.out; have Kf := Xa.out; have Lf := Ya.out; obtain ⟨Mf, Nf, Of, Pf, Qf, Rf⟩ := bc3_ b.out) | ((with_reducible refine gate_callee (f := 54) rfl ?_); refine gl_ (some 14) Tryz.func54 #[.agg #[.int .i64 aa, .int .i64 ba, .slice Qa D.length Da]] ?_; (with_reducible refine (impl_copyPart.calls k aa ba _ _ D X Y q _ ?side1 ?side2 A3.out).mono ?_); (case side1 => exact cp_ ((Kd.C_below vb.out F.out))); (case side2 => exact Lb.out); rintro e wj ⟨ue, rfl, bb, hb⟩; refine ⟨_, rfl, ?_⟩; obtain ⟨Z, nc⟩ := Kd.S_name bb; have s := Aside0.mk (Kd.S_lower (Kd.S_newB (Kd.S_gez nc bb) (pb_ a.out)) (below_size (hs_ F.out))); replace b := bk2_ b hb; replace a := bk2_ a hb; replace l := bk2_ l hb; replace F := st_ F hb; (try clear hb); (try clear hk); (try clear bb)) | ((with_reducible refine gd_ 6 rfl ?_); refine bv_ 6 #[.int .i64 0, .int .i64 0, .slice none 0 0] 26 ?_; intro z hg xj J hb; replace s := Aside0.mk (Kd.S_below (Kd.S_ltz hg (sp_ s.out)) hb); have c := Aside0.mk (J); have oc := gq_ hg F; replace F := st_ F hb; have Td := Ge_.mk oc.out; obtain ⟨la, ma, b⟩ := nb_ b hg hb; obtain ⟨na, oa, a⟩ := nb_ a hg hb; obtain ⟨pa, qa, l⟩ := nb_ l hg hb; clear hb J hg; have Sf := ma.out; have Tf := la.out; have Uf := oa.out; have Vf := na.out; have Wf := qa.out; have Xf := pa.out; obtain ⟨Yf, Zf, ag, bg, cg, dg⟩ := bc3_ c.out; obtain ⟨yb, ob, ve⟩ := Kd.S_slice s.out; subst ve; have eg := Za.out; have fg := ab.out; obtain ⟨gg, ig, jg, kg, lg, mg, ng, og⟩ := bc4_ a.out) | ((with_reducible refine gate_callee (f := 55) rfl ?_); refine gl_ (some 21) Tryz.func55 #[.slice ca G.length da] ?_; (with_reducible refine (impl_Finger.calls k _ _ G I _ ?side1 ?side2 A4.out).mono ?_); (case side1 => exact Kd.C_below wb.out (hs_ F.out)); (case side2 => exact xb.out); rintro e yj ⟨rfl, hb⟩; refine ⟨_, rfl, ?_⟩; replace s := Aside0.mk (Kd.S_below (sy_ s.out c.out) hb); replace b := bk2_ b hb; replace a := bk2_ a hb; replace l := bk2_ l hb; replace c := by_ c #[.int .i64 X, .int .i64 (wrap64 (Y + 1)), .slice yb q.length ob] hb; replace F := st_ F hb; (try clear hb); (try clear hk); obtain ⟨pg, qg, rg, sg, tg, ug⟩ := bc3_ b.out) | ((with_reducible refine gate_callee (f := 56) rfl ?_); refine gl_ (some 24) Tryz.func56 #[.agg #[.int .i64 aa, .int .i64 ba, .slice Qa D.length Da], .int .i64 I] ?_; (with_reducible refine (impl_chainOf.calls k aa ba _ _ D I y _ ?side1 ?side2 A5.out).mono ?_); (case side1 => exact cp_ ((Kd.C_below vb.out F.out))); (case side2 => exact Lb.out); rintro e vg ⟨rfl, hb⟩; refine ⟨_, rfl, ?_⟩; replace s := sb_ s hb; replace b := bk2_ b hb; replace a := bk2_ a hb; replace l := bk2_ l hb; replace c := bk2_ c hb; replace F := st_ F hb; (try clear hb); (try clear hk)))
  replace s := Aside0.mk (Kd.S_drew s.out)
  replace b := Aside0.mk (blk_drew b.out)
  replace a := Aside0.mk (blk_drew a.out)
  replace l := Aside0.mk (blk_drew l.out)
  replace c := Aside0.mk (blk_drew c.out)
  replace F := Aside0.mk (bd_ F.out)
  obtain ⟨Kc, Lc⟩ : 0 ≤ (y : Int) ∧ y < (D.length : Int) := pq_
  obtain ⟨ra, qb, rb, we, Sa, kb, Rb, Sb⟩ := at_T80 vb.out y Kc Lc
  have ea := kb
  have fa := Sa
  cases we
  replace Sa := c2_ F Sa kb; clear kb; obtain ⟨Sa, kb⟩ := Sa
  have zb := Aside0.mk Sb
  have Tb := Aside0.mk Rb
  clear Sb Rb
  replace Kc := eq_true Kc; replace Lc := eq_true Lc
  refine start_ (n := 13) (S := fun w' => w'.cell? ⟨W, 0, none⟩ = some (.int .i64 aa) ∧ w'.cell? ⟨W, 1, none⟩ = some (.int .i64 ba) ∧ w'.cell? ⟨W, 2, none⟩ = some (.slice (some ra) D.length Da) ∧ w'.cell? ⟨m, 0, none⟩ = some (.slice ca G.length da) ∧ w'.cell? ⟨m, 1, none⟩ = some (.int .i64 T) ∧ w'.cell? ⟨m, 2, none⟩ = some (.int .i64 U) ∧ w'.cell? ⟨m, 3, none⟩ = some (.string V) ∧ w'.cell? (ra.add ((y).toNat * 2)) = some (.int .i64 ((rd_T80 D y).f0)) ∧ w'.cell? ⟨(ra.add ((y).toNat * 2)).block, (ra.add ((y).toNat * 2)).off + 1, none⟩ = some (.slice qb ((rd_T80 D y).f1).length rb)) (ds := []) (b_ 0 13) (by kernel_rfl) rfl rfl ⟨bx_ b.out 0, bx_ b.out 1, bx_ b.out 2, bx_ a.out 0, bx_ a.out 1, bx_ a.out 2, bx_ a.out 3, ((F.out.cell (World.block_lt_of_cell? w _ fa)).trans fa), ((F.out.cell (World.block_lt_of_cell? w _ ea)).trans ea)⟩ (fun E => ?_); refine with_tabW impl_PutIn.tab6 impl_PutIn.bits6 (fun ka Bc => ?_)
  generalize vg.drew = zj at s b a l c F zb Sa kb E ⊢
  refine p_ ka ?_
  refine qw_ 2 (m_ 13 5) ka ?_
  refine qt_ 1 (b_ 3 10) ka Bc E ?_
  refine p_ ka ?_
  iterate 2 refine t0_ ka Bc E ?_
  refine join_ (σ := Value × Nat × Nat) 2 (b_ 11 2) (fun s_ => [(34, .tuple #[.agg #[.int .i64 jb, s_.1], .bool Jb]), (9, .pointer (some ⟨s_.2.2, 0, none⟩)), (27, .tuple #[.agg #[.int .i64 jb, s_.1], .bool Jb]), (35, .agg #[.int .i64 jb, s_.1]), (36, .bool Jb)]) (fun s_ w' => (w'.cell? ⟨W, 0, none⟩ = some (.int .i64 aa) ∧ w'.cell? ⟨W, 1, none⟩ = some (.int .i64 ba) ∧ w'.cell? ⟨W, 2, none⟩ = some (.slice (some ra) D.length Da) ∧ w'.cell? ⟨m, 0, none⟩ = some (.slice ca G.length da) ∧ w'.cell? ⟨m, 1, none⟩ = some (.int .i64 T) ∧ w'.cell? ⟨m, 2, none⟩ = some (.int .i64 U) ∧ w'.cell? ⟨m, 3, none⟩ = some (.string V) ∧ w'.cell? (ra.add ((y).toNat * 2)) = some (.int .i64 ((rd_T80 D y).f0)) ∧ w'.cell? ⟨(ra.add ((y).toNat * 2)).block, (ra.add ((y).toNat * 2)).off + 1, none⟩ = some (.slice qb ((rd_T80 D y).f1).length rb)) ∧ (Kd.S k80 80 w' w.heap.size (fun k_ => k_ ≠ m ∧ k_ ≠ s_.2.2 ∧ Z ≤ k_ ∧ k_ < z ∧ k_ < s_.2.1) (.slice yb q.length ob) q) ∧ (Kd.S k29 29 w' w.heap.size (fun k_ => k_ ≠ m ∧ s_.2.1 ≤ k_) s_.1 Ra) ∧ (w'.heap[W]? = some (.cells #[.int .i64 aa, .int .i64 ba, .slice (some ra) D.length Da] 26 (0, 0))) ∧ (w'.heap[m]? = some (.cells #[.slice ca G.length da, .int .i64 T, .int .i64 U, .string V] 29 (0, 0))) ∧ (w'.heap[ja]? = some (.cells #[.int .i64 0, .int .i64 0, .slice none 0 0] 26 (0, 0))) ∧ (w'.heap[z]? = some (.cells #[.int .i64 X, .int .i64 (wrap64 (Y + 1)), .slice yb q.length ob] 26 (0, 0))) ∧ (w'.heap[s_.2.2]? = some (.cells #[.int .i64 0, .slice none 0 0] 80 (0, 0))) ∧ (w.heap.size ≤ s_.2.2) ∧ (w.heap.size ≤ s_.2.2) ∧ (W ≠ s_.2.2) ∧ (s_.2.2 ≠ W) ∧ (m ≠ s_.2.2) ∧ (s_.2.2 ≠ m) ∧ (ja ≠ s_.2.2) ∧ (s_.2.2 ≠ ja) ∧ (z ≠ s_.2.2) ∧ (s_.2.2 ≠ z) ∧ (Below w.heap.size w w')) ?_ ?_
  rotate_left
  ·
   intro Ab
   refine two_ (i := 6) (j := 10) (Ni := some 34) (Nj := some 9) (b_ 7 6) (m_ 13 1087) rfl rfl rfl rfl (two_of ka.out (by kernel_rfl)) (by decide) (by decide) (fun K hK => ?_) (fun K hK => ?_)
   ·
    skip
    refine gs_ Tryz.func57 #[.agg #[.int .i64 ((rd_T80 D y).f0), .slice qb ((rd_T80 D y).f1).length rb], .agg #[.slice ca G.length da, .int .i64 T, .int .i64 U, .string V]] ?_
    with_reducible refine (impl_PutChain.calls k ((rd_T80 D y).f0) _ _ ((rd_T80 D y).f1) _ _ G T U V jb Ra Jb _ ?side1 ?side2 ?side3 ?side4 A9.out).mono ?_
    (case side1 => exact cp_ ((Kd.C_below zb.out F.out)))
    (case side2 => exact Tb.out)
    (case side3 => exact cp_ ((Kd.C_below wb.out F.out)))
    (case side4 => exact xb.out)
    rintro e wg ⟨Ub, rfl, bb, hb⟩
    refine ⟨_, rfl, ?_⟩
    obtain ⟨Oa, Bb⟩ := Kd.S_name bb
    replace s := su_ Bb (sp_ s.out) hb
    have Ga := Aside0.mk (Kd.S_lower (Kd.S_newB (Kd.S_gez Bb bb) (pb_ a.out)) (below_size (hs_ F.out)))
    replace b := bk2_ b hb
    replace a := bk2_ a hb
    replace l := bk2_ l hb
    replace c := bk2_ c hb
    replace F := st_ F hb
    (try clear hb)
    (try clear hk)
    (try clear bb)
    refine ho_ hK ⟨bx_ b.out 0, bx_ b.out 1, bx_ b.out 2, bx_ a.out 0, bx_ a.out 1, bx_ a.out 2, bx_ a.out 3, ((F.out.cell (World.block_lt_of_cell? w _ fa)).trans fa), ((F.out.cell (World.block_lt_of_cell? w _ ea)).trans ea)⟩ (fun E => ?_)
    iterate 3 refine p_ ka ?_
    refine o1_ 10 (b_ 11 2) ka (fun K hK => ?_)
    refine bs1_ 9 #[.int .i64 0, .slice none 0 0] 80 ?_
    intro sa hg xg J hb
    replace s := se_ s hg hb
    replace Ga := sb_ Ga hb
    have ga := Aside0.mk (J)
    have lb := gq_ hg F
    have Mb := gq_ hg F
    replace F := st_ F hb
    have ta := nk_ b hg
    have ua := Ne_.mk (ng_ b.out hg)
    replace b := bk2_ b hb
    have va := nk_ a hg
    have wa := Ne_.mk (ng_ a.out hg)
    replace a := bk2_ a hb
    have xa := nk_ l hg
    have ya := Ne_.mk (ng_ l.out hg)
    replace l := bk2_ l hb
    have za := nk_ c hg
    have Aa := Ne_.mk (ng_ c.out hg)
    replace c := bk2_ c hb
    clear hb J hg
    refine ho_ hK ⟨bx_ b.out 0, bx_ b.out 1, bx_ b.out 2, bx_ a.out 0, bx_ a.out 1, bx_ a.out 2, bx_ a.out 3, ((F.out.cell (World.block_lt_of_cell? w _ fa)).trans fa), ((F.out.cell (World.block_lt_of_cell? w _ ea)).trans ea)⟩ (fun E => ?_)
    exact norm_ (by simp only [putAll, fr_]) (Ab (Ub, Oa, sa) _ ⟨E, (Kd.S_mono (sp_ s.out) (fun _ hk => ⟨hk.1.1.1.2, ⟨hk.2, ⟨hk.1.1.1.1.2, ⟨hk.1.1.2, hk.1.2⟩⟩⟩⟩)), (Kd.S_mono (sp_ Ga.out) (fun _ hk => ⟨hk.2, hk.1.2⟩)), (pb_ b.out), (pb_ a.out), (pb_ l.out), (pb_ c.out), (pb_ ga.out), lb.out, Mb.out, ta.out, ua.out, va.out, wa.out, xa.out, ya.out, za.out, Aa.out, (hs_ F.out)⟩)
   skip
   refine bs1_ 9 #[.int .i64 0, .slice none 0 0] 80 ?_
   intro sa hg wg J hb
   replace s := se_ s hg hb
   have ga := Aside0.mk (J)
   have lb := gq_ hg F
   have Mb := gq_ hg F
   replace F := st_ F hb
   have ta := nk_ b hg
   have ua := Ne_.mk (ng_ b.out hg)
   replace b := bk2_ b hb
   have va := nk_ a hg
   have wa := Ne_.mk (ng_ a.out hg)
   replace a := bk2_ a hb
   have xa := nk_ l hg
   have ya := Ne_.mk (ng_ l.out hg)
   replace l := bk2_ l hb
   have za := nk_ c hg
   have Aa := Ne_.mk (ng_ c.out hg)
   replace c := bk2_ c hb
   clear hb J hg
   refine ho_ hK ⟨bx_ b.out 0, bx_ b.out 1, bx_ b.out 2, bx_ a.out 0, bx_ a.out 1, bx_ a.out 2, bx_ a.out 3, ((F.out.cell (World.block_lt_of_cell? w _ fa)).trans fa), ((F.out.cell (World.block_lt_of_cell? w _ ea)).trans ea)⟩ (fun E => ?_)
   refine o1_ 6 (m_ 13 1151) ka (fun K hK => ?_)
   refine gs_ Tryz.func57 #[.agg #[.int .i64 ((rd_T80 D y).f0), .slice qb ((rd_T80 D y).f1).length rb], .agg #[.slice ca G.length da, .int .i64 T, .int .i64 U, .string V]] ?_
   with_reducible refine (impl_PutChain.calls k ((rd_T80 D y).f0) _ _ ((rd_T80 D y).f1) _ _ G T U V jb Ra Jb _ ?side1 ?side2 ?side3 ?side4 A9.out).mono ?_
   (case side1 => exact cp_ ((Kd.C_below zb.out F.out)))
   (case side2 => exact Tb.out)
   (case side3 => exact cp_ ((Kd.C_below wb.out F.out)))
   (case side4 => exact xb.out)
   rintro e xg ⟨Ub, rfl, bb, hb⟩
   refine ⟨_, rfl, ?_⟩
   obtain ⟨Oa, Bb⟩ := Kd.S_name bb
   replace s := su_ Bb (sp_ s.out) hb
   have Ga := Aside0.mk (Kd.S_lower (Kd.S_newB (Kd.S_gez Bb bb) (pb_ a.out)) (below_size (hs_ F.out)))
   replace b := bk2_ b hb
   replace a := bk2_ a hb
   replace l := bk2_ l hb
   replace c := bk2_ c hb
   replace ga := bk2_ ga hb
   replace F := st_ F hb
   (try clear hb)
   (try clear hk)
   (try clear bb)
   refine ho_ hK ⟨bx_ b.out 0, bx_ b.out 1, bx_ b.out 2, bx_ a.out 0, bx_ a.out 1, bx_ a.out 2, bx_ a.out 3, ((F.out.cell (World.block_lt_of_cell? w _ fa)).trans fa), ((F.out.cell (World.block_lt_of_cell? w _ ea)).trans ea)⟩ (fun E => ?_)
   refine qw_ 7 (m_ 13 1279) ka ?_
   refine qw_ 8 (m_ 13 1535) ka ?_
   refine qw_ 9 (b_ 11 2) ka ?_
   exact norm_ (by simp only [putAll, fr_]) (Ab (Ub, Oa, sa) _ ⟨E, (Kd.S_mono (sp_ s.out) (fun _ hk => ⟨hk.1.1.1.2, ⟨hk.1.2, ⟨hk.1.1.1.1.2, ⟨hk.1.1.2, hk.2⟩⟩⟩⟩)), (Kd.S_mono (sp_ Ga.out) (fun _ hk => ⟨hk.2, hk.1.2⟩)), (pb_ b.out), (pb_ a.out), (pb_ l.out), (pb_ c.out), (pb_ ga.out), lb.out, Mb.out, ta.out, ua.out, va.out, wa.out, xa.out, ya.out, za.out, Aa.out, (hs_ F.out)⟩)
  rintro ⟨Ub, Oa, sa⟩ Ta ⟨Ud, Mc, Nc, Oc, Pc, Qc, Rc, Sc, Tc, Uc, Vc, Vb, Wb, Xb, Yb, Zb, ac, bc, cc⟩
  replace s : Aside0 (Kd.S k80 80 Ta w.heap.size (fun k_ => k_ ≠ m ∧ k_ ≠ sa ∧ Z ≤ k_ ∧ k_ < z ∧ k_ < Oa) (.slice yb q.length ob) q) := ⟨Mc⟩
  have Ga : Aside0 (Kd.S k29 29 Ta w.heap.size (fun k_ => k_ ≠ m ∧ Oa ≤ k_) Ub Ra) := ⟨Nc⟩
  replace b : Aside0 (Ta.heap[W]? = some (.cells #[.int .i64 aa, .int .i64 ba, .slice (some ra) D.length Da] 26 (0, 0))) := ⟨Oc⟩
  replace a : Aside0 (Ta.heap[m]? = some (.cells #[.slice ca G.length da, .int .i64 T, .int .i64 U, .string V] 29 (0, 0))) := ⟨Pc⟩
  replace l : Aside0 (Ta.heap[ja]? = some (.cells #[.int .i64 0, .int .i64 0, .slice none 0 0] 26 (0, 0))) := ⟨Qc⟩
  replace c : Aside0 (Ta.heap[z]? = some (.cells #[.int .i64 X, .int .i64 (wrap64 (Y + 1)), .slice yb q.length ob] 26 (0, 0))) := ⟨Rc⟩
  have ga : Aside0 (Ta.heap[sa]? = some (.cells #[.int .i64 0, .slice none 0 0] 80 (0, 0))) := ⟨Sc⟩
  have lb := Ge_.mk Tc
  have Mb := Ge_.mk Uc
  have ta := Ne_.mk Vc
  have ua := Ne_.mk Vb
  have va := Ne_.mk Wb
  have wa := Ne_.mk Xb
  have xa := Ne_.mk Yb
  have ya := Ne_.mk Zb
  have za := Ne_.mk ac
  have Aa := Ne_.mk bc
  replace F : Aside0 (Below w.heap.size w Ta) := ⟨cc⟩
  clear Mc Nc Oc Pc Qc Rc Sc Tc Uc Vc Vb Wb Xb Yb Zb ac bc cc
  have E : Ta.cell? ⟨W, 0, none⟩ = some (.int .i64 aa) ∧ Ta.cell? ⟨W, 1, none⟩ = some (.int .i64 ba) ∧ Ta.cell? ⟨W, 2, none⟩ = some (.slice (some ra) D.length Da) ∧ Ta.cell? ⟨m, 0, none⟩ = some (.slice ca G.length da) ∧ Ta.cell? ⟨m, 1, none⟩ = some (.int .i64 T) ∧ Ta.cell? ⟨m, 2, none⟩ = some (.int .i64 U) ∧ Ta.cell? ⟨m, 3, none⟩ = some (.string V) ∧ Ta.cell? (ra.add ((y).toNat * 2)) = some (.int .i64 ((rd_T80 D y).f0)) ∧ Ta.cell? ⟨(ra.add ((y).toNat * 2)).block, (ra.add ((y).toNat * 2)).off + 1, none⟩ = some (.slice qb ((rd_T80 D y).f1).length rb) := Ud
  obtain ⟨dc, ec, Ed⟩ := Kd.S_slice Ga.out
  (first | subst Ed | (obtain ⟨rfl, rfl⟩ := si_ Ed))
  refine nm_ ?_
  refine o1_ 11 (b_ 12 1) ka (fun K hK => ?_)
  have jj : Ta.cell? ⟨sa, 0, none⟩ = some (.int .i64 0) := bx_ ga.out 0
  have yg := blk_frozen ga.out 0
  have xe := ta.out
  have ye := va.out
  have ze := xa.out
  have Ae := za.out
  have Be := ua.out
  have Ce := wa.out
  have De := ya.out
  have Ee := Aa.out
  have kj : Ta.cell? ⟨sa, 1, none⟩ = some (.slice none 0 0) := bx_ ga.out 1
  have zg := blk_frozen ga.out 1
  have Fe := ta.out
  have Ge := va.out
  have He := xa.out
  have Ie := za.out
  have Je := ua.out
  have Ke := wa.out
  have Le := ya.out
  have Me := Aa.out
  refine skip_ (w1 := ?_) (by rfl) rfl ?_ ?_
  rotate_left
  ·
   go_simp
   rfl
  refine hK.out _ _ ⟨(cg_ (E.1)), (cg_ (E.2.1)), (cg_ (E.2.2.1)), (cg_ (E.2.2.2.1)), (cg_ (E.2.2.2.2.1)), (cg_ (E.2.2.2.2.2.1)), (cg_ (E.2.2.2.2.2.2.1)), (ce_ fa lb.out ((ce_ fa lb.out (E.2.2.2.2.2.2.2.1)))), (ce_ ea lb.out ((ce_ ea lb.out (E.2.2.2.2.2.2.2.2))))⟩ (fun E => ?_)
  clear hK K
  refine p_ ka ?_
  refine done_ (done_of ka.out (by kernel_rfl)) ?_
  generalize hw_ : ((Ta.setCell ⟨sa, 0, none⟩ (.int .i64 jb)).setCell ⟨sa, 1, none⟩ (.slice dc Ra.length ec)) = pb
  have Wc : Aside0 (Kd.S k80 80 pb w.heap.size (fun k_ => k_ ≠ m ∧ k_ ≠ sa ∧ Z ≤ k_ ∧ k_ < z ∧ k_ < Oa) (.slice yb q.length ob) q) := ⟨by rw [← hw_]; exact (Kd.S_mono (sf_ sa s.out (fun _ hk => hk.2.1)) (fun _ hk => ⟨hk.1, ⟨hk.2.1, ⟨hk.2.2.1, ⟨hk.2.2.2.1, hk.2.2.2.2⟩⟩⟩⟩))⟩
  have Xc : Aside0 (Kd.S k29 29 pb w.heap.size (fun k_ => k_ ≠ m ∧ Oa ≤ k_) (.slice dc Ra.length ec) Ra) := ⟨by rw [← hw_]; exact (Kd.S_mono (sy_ Ga.out ga.out) (fun _ hk => ⟨hk.1, hk.2⟩))⟩
  have Yc : Aside0 (pb.heap[W]? = some (.cells #[.int .i64 aa, .int .i64 ba, .slice (some ra) D.length Da] 26 (0, 0))) := ⟨by rw [← hw_]; exact (bq_ b.out)⟩
  have Zc : Aside0 (pb.heap[m]? = some (.cells #[.slice ca G.length da, .int .i64 T, .int .i64 U, .string V] 29 (0, 0))) := ⟨by rw [← hw_]; exact (bq_ a.out)⟩
  have ad : Aside0 (pb.heap[ja]? = some (.cells #[.int .i64 0, .int .i64 0, .slice none 0 0] 26 (0, 0))) := ⟨by rw [← hw_]; exact (bq_ l.out)⟩
  have bd : Aside0 (pb.heap[z]? = some (.cells #[.int .i64 X, .int .i64 (wrap64 (Y + 1)), .slice yb q.length ob] 26 (0, 0))) := ⟨by rw [← hw_]; exact (bq_ c.out)⟩
  have cd : Aside0 (pb.heap[sa]? = some (.cells #[.int .i64 jb, .slice dc Ra.length ec] 80 (0, 0))) := ⟨by rw [← hw_]; exact (bp_ ga.out)⟩
  have dd : Aside0 (Below w.heap.size w pb) := ⟨by rw [← hw_]; exact (hs_ F.out)⟩
  clear hw_
  (try clear s)
  (try clear Ga)
  (try clear b)
  (try clear a)
  (try clear l)
  (try clear c)
  (try clear ga)
  (try clear F)
  have s := Wc
  have Ga := Xc
  have b := Yc
  have a := Zc
  have l := ad
  have c := bd
  have ga := cd
  have F := dd
  clear Wc Xc Yc Zc ad bd cd dd
  have Ag := za.out
  have Bg := Aa.out
  obtain ⟨Cg, Dg, Eg, Fg, Gg, Hg⟩ := bc3_ c.out
  have Ig := ua.out
  have Jg := ta.out
  have Kg := wa.out
  have Lg := va.out
  have Mg := ya.out
  have Ng := xa.out
  obtain ⟨Og, Pg, Qg, Rg⟩ := bc2_ ga.out
  obtain ⟨Vd, Wd⟩ : 0 ≤ (y : Int) ∧ (y : Int) < ((q.length : Int) : Int) := pq_
  obtain ⟨go11, lj, Fd, Gd, gl11, cl11, HG11⟩ := Kd.S_form s.out (by omega)
  (first | cases Fd | (injection Fd with ea_ en_ ec_; (first | subst ea_ | (injection ea_ with ea_; subst ea_)); subst ec_; clear en_))
  have GB11 := Aside0.mk Gd
  have GG11 := Aside0.mk HG11
  clear Gd gl11 HG11
  obtain ⟨_, mj, hcl11, hM11, pc, hfr11, _, _⟩ := Kd.S_elem s.out z80 (y : Int) Vd Wd
  obtain ⟨ud, rfl, af⟩ := k80_openM hM11
  have bf : pb.cell? ⟨go11, (y : Int).toNat * 2, none⟩ = some (.int .i64 ((rd_T80 q y).f0)) := pc 0 _ rfl
  have cf : pb.cell? ⟨go11, (y : Int).toNat * 2 + 1, none⟩ = some (ud) := pc 1 _ rfl
  have hf11_0 : pb.frozen? ⟨go11, (y : Int).toNat * 2, none⟩ = false := hfr11 0
  have hf11_1 : pb.frozen? ⟨go11, (y : Int).toNat * 2 + 1, none⟩ = false := hfr11 1
  clear hcl11 pc hfr11 hM11
  replace Vd := eq_true Vd; replace Wd := eq_true Wd
  obtain ⟨Xd, vd, ub⟩ := Kd.S_fp (Kd.S_types (Kd.S_apart' (Ga.out) (Kd.S_typed s.out) (by decide)) ga.out (by decide))
  have HX44 := Aside0.mk (show Kd.S k80 80 pb w.heap.size (fun k_ => ((fun k_ => k_ ≠ m ∧ k_ ≠ sa)) k_ ∧ ¬ ((fun k_ => Xd k_)) k_) (.slice (some ⟨go11, 0, none⟩) q.length ob) q from (Kd.S_mono (sp_ s.out) (fun k_ hk => ⟨⟨hk.1, hk.2.1⟩, fun e_ => (fun ez_ => Nat.lt_irrefl _ (Nat.lt_of_lt_of_le hk.2.2.2.2 (ub _ ez_).1.1.1.2)) e_⟩)))
  obtain ⟨oki44, nj, hcl44, hM44, qc, hfr44, hoki44, hH44⟩ := Kd.S_elem HX44.out z80 (y : Int) (of_decide_eq_true (by with_reducible assumption)) (by have h_ : (y : Int) < ((q.length : Int) : Int) := of_decide_eq_true (by with_reducible assumption); first | exact h_ | (have e_ := (Kd.S_reads' s.out).1; omega) | simpa using h_)
  obtain ⟨df, rfl, ef⟩ := k80_openM hM44
  have HP44 := Kd.S_seg hH44 (of_decide_eq_true (by with_reducible assumption)) (by have h_ : (y : Int) < ((q.length : Int) : Int) := of_decide_eq_true (by with_reducible assumption); first | exact h_ | (have e_ := (Kd.S_reads' s.out).1; omega) | simpa using h_) (seg := [.int .i64 jb, .slice dc Ra.length ec]) (j := 0) (show 2 ≤ 2 from by decide) (x' := (⟨jb, Ra⟩ : S80)) (k80_mkM _ _ _ (⟨jb, Ra⟩ : S80) (Kd.S_mono vd (fun _ h_ => Or.inr (h_)))) (fun _ hk => hk) (fun k_ hk_ => ⟨⟨(ub k_ hk_).1.1.1.1, (ub k_ hk_).1.2⟩, fun e_ => ((ub k_ hk_).1.1.2) (by rw [e_]; rfl)⟩)
  have wd := qc 0 _ rfl
  (try simp only [show (k80).sz = 2 from rfl, Nat.mul_one, Nat.add_zero] at wd)
  have hf44_0 := hfr44 0
  (try simp only [show (k80).sz = 2 from rfl, Nat.mul_one, Nat.add_zero] at hf44_0)
  have xd := qc 1 _ rfl
  (try simp only [show (k80).sz = 2 from rfl, Nat.mul_one, Nat.add_zero] at xd)
  have hf44_1 := hfr44 1
  (try simp only [show (k80).sz = 2 from rfl, Nat.mul_one, Nat.add_zero] at hf44_1)
  clear hcl44 qc hfr44 hM44 hoki44 hH44
  try go_wp2_with (first | ((with_reducible refine gate_store (t := 80) (p := 41) rfl ?_); refine store_event (t := 80) (p := 41) (v := ?vo_w45) (w1 := ((pb.setCell ⟨go11, (y : Int).toNat * 2, none⟩ (.int .i64 jb)).setCell ⟨go11, (y : Int).toNat * 2 + 1, none⟩ (.slice dc Ra.length ec))) ?hg ?ho ?hn ?hr ?_; (case ho => rfl); (case hg => rfl); (case hn => rfl); (case hr => first | (go_simp; done) | (go_simp; rfl)); intro Yd hw; have hg : pb.grownBy Yd (some go11) := (by rw [hw]; exact HP44.2); have hp_ : Kd.S k80 80 Yd w.heap.size (fun k_ => k_ ≠ m ∧ k_ ≠ sa) (.slice (some ⟨go11, 0, none⟩) q.length ob) Dd := (by rw [hw, Pd.out]; exact HP44.1); clear HP44; replace b := Aside0.mk (blk_grown (bq_ b.out) hg (Kd.S_ne s.out b.out (by decide))); replace a := Aside0.mk (blk_grown (bq_ a.out) hg (Kd.S_ne s.out a.out (by decide))); replace l := Aside0.mk (blk_grown (bq_ l.out) hg (Kd.S_ne s.out l.out (by decide))); replace c := Aside0.mk (blk_grown (bq_ c.out) hg (Kd.S_ne s.out c.out (by decide))); replace ga := Aside0.mk (blk_grown (bq_ ga.out) hg (Kd.S_away s.out (fun _ hk => hk.2.1))); replace s := Aside0.mk (hp_); replace F := Aside0.mk ((by rw [hw]; exact below_set (below_set (F.out) GB11.out) GB11.out : Below w.heap.size w Yd)); clear Ga; clear hg hw hp_; obtain ⟨Sg, Tg, Ug, Vg, Wg, Xg⟩ := bc3_ c.out; obtain ⟨Yg, Zg, ah, bh, ch, dh⟩ := bc3_ l.out))
  refine bodyPost_ret (results_ct rfl _ _ ja 26 #[.int .i64 X, .int .i64 (wrap64 (Y + 1)), .slice (some ⟨go11, 0, none⟩) q.length ob] (0, 0) _ rfl (bp_ l.out) Tryz.underlying26 rfl (by kernel_rfl)) rfl ?_
  exact ⟨_, rr_, Kd.S_mono (sy_ s.out l.out) (fun _ hk => trivial), hs_ F.out⟩
 have te : decide (0 ≤ y) = false := decide_eq_false c6
 clear c6
 have H' := Aside0.mk H
 clear H
 go_enter Tryz.func8, Tryz.ntmps8
 go_wp2_with (first | ((with_reducible refine gd_ 2 rfl ?_); refine bv_ 2 #[.int .i64 aa, .int .i64 ba, .slice Qa D.length Da] 26 ?_; intro W hg Aj J hb; have b := Aside0.mk (J); have kc := gq_ hg F; replace F := st_ F hb; have Qd := Ge_.mk kc.out; clear hb J hg) | ((with_reducible refine gd_ 3 rfl ?_); refine bv_ 3 #[.slice ca G.length da, .int .i64 T, .int .i64 U, .string V] 29 ?_; intro m hg Bj J hb; have a := Aside0.mk (J); have lc := gq_ hg F; replace F := st_ F hb; have Rd := Ge_.mk lc.out; obtain ⟨Va, Wa, b⟩ := nb_ b hg hb; clear hb J hg) | ((with_reducible refine gd_ 4 rfl ?_); refine bv_ 4 #[.int .i64 0, .int .i64 0, .slice none 0 0] 26 ?_; intro ja hg Cj J hb; have l := Aside0.mk (J); have mc := gq_ hg F; replace F := st_ F hb; have Sd := Ge_.mk mc.out; obtain ⟨Xa, Ya, b⟩ := nb_ b hg hb; obtain ⟨Za, ab, a⟩ := nb_ a hg hb; clear hb J hg; have eh := Va.out; have fh := Wa.out; have gh := Xa.out; have hh := Ya.out; obtain ⟨ih, jh, kh, lh, mh, nh⟩ := bc3_ b.out) | ((with_reducible refine gate_callee (f := 54) rfl ?_); refine gl_ (some 14) Tryz.func54 #[.agg #[.int .i64 aa, .int .i64 ba, .slice Qa D.length Da]] ?_; (with_reducible refine (impl_copyPart.calls k aa ba _ _ D X Y q _ ?side1 ?side2 A3.out).mono ?_); (case side1 => exact cp_ ((Kd.C_below vb.out F.out))); (case side2 => exact Lb.out); rintro e Dj ⟨ue, rfl, bb, hb⟩; refine ⟨_, rfl, ?_⟩; obtain ⟨Z, nc⟩ := Kd.S_name bb; have s := Aside0.mk (Kd.S_lower (Kd.S_newB (Kd.S_gez nc bb) (pb_ a.out)) (below_size (hs_ F.out))); replace b := bk2_ b hb; replace a := bk2_ a hb; replace l := bk2_ l hb; replace F := st_ F hb; (try clear hb); (try clear hk); (try clear bb)) | ((with_reducible refine gd_ 6 rfl ?_); refine bv_ 6 #[.int .i64 0, .int .i64 0, .slice none 0 0] 26 ?_; intro z hg Ej J hb; replace s := Aside0.mk (Kd.S_below (Kd.S_ltz hg (sp_ s.out)) hb); have c := Aside0.mk (J); have oc := gq_ hg F; replace F := st_ F hb; have Td := Ge_.mk oc.out; obtain ⟨la, ma, b⟩ := nb_ b hg hb; obtain ⟨na, oa, a⟩ := nb_ a hg hb; obtain ⟨pa, qa, l⟩ := nb_ l hg hb; clear hb J hg; have oh := ma.out; have ph := la.out; have qh := oa.out; have rh := na.out; have sh := qa.out; have th := pa.out; obtain ⟨uh, vh, wh, xh, yh, zh⟩ := bc3_ c.out; obtain ⟨Q, R, Ne⟩ := Kd.S_slice s.out; subst Ne; have Ah := Za.out; have Bh := ab.out; obtain ⟨Ch, Dh, Eh, Fh, Gh, Hh, Ih, Jh⟩ := bc4_ a.out) | ((with_reducible refine gate_callee (f := 55) rfl ?_); refine gl_ (some 21) Tryz.func55 #[.slice ca G.length da] ?_; (with_reducible refine (impl_Finger.calls k _ _ G I _ ?side1 ?side2 A4.out).mono ?_); (case side1 => exact Kd.C_below wb.out (hs_ F.out)); (case side2 => exact xb.out); rintro e Fj ⟨rfl, hb⟩; refine ⟨_, rfl, ?_⟩; replace s := Aside0.mk (Kd.S_below (sy_ s.out c.out) hb); replace b := bk2_ b hb; replace a := bk2_ a hb; replace l := bk2_ l hb; replace c := by_ c #[.int .i64 X, .int .i64 (wrap64 (Y + 1)), .slice Q q.length R] hb; replace F := st_ F hb; (try clear hb); (try clear hk); obtain ⟨Kh, Lh, Mh, Nh, Oh, Ph⟩ := bc3_ b.out) | ((with_reducible refine gate_callee (f := 56) rfl ?_); refine gl_ (some 24) Tryz.func56 #[.agg #[.int .i64 aa, .int .i64 ba, .slice Qa D.length Da], .int .i64 I] ?_; (with_reducible refine (impl_chainOf.calls k aa ba _ _ D I y _ ?side1 ?side2 A5.out).mono ?_); (case side1 => exact cp_ ((Kd.C_below vb.out F.out))); (case side2 => exact Lb.out); rintro e Gj ⟨rfl, hb⟩; refine ⟨_, rfl, ?_⟩; replace s := sb_ s hb; replace b := bk2_ b hb; replace a := bk2_ a hb; replace l := bk2_ l hb; replace c := bk2_ c hb; replace F := st_ F hb; (try clear hb); (try clear hk)))
 go_loopg [11] k (fun kq Qh w' => ∃ (A : Int), Qh = .int .i64 A ∧ Aside0 (impl_PutIn.l0 kq I A G T U V X (wrap64 (Y + 1)) q = some (r1, r2, r3, r4)) ∧ Aside0 (kq ≤ k) ∧ Aside0 (Kd.S k80 80 w' w.heap.size (fun k_ => k_ ≠ m ∧ Z ≤ k_ ∧ k_ < z) (.slice Q q.length R) q) ∧ Aside0 (w'.heap[W]? = some (.cells #[.int .i64 aa, .int .i64 ba, (.slice Qa D.length Da)] 26 (0, 0))) ∧ Aside0 (w'.heap[m]? = some (.cells #[(.slice ca G.length da), .int .i64 T, .int .i64 U, .string V] 29 (0, 0))) ∧ Aside0 (w'.heap[ja]? = some (.cells #[.int .i64 0, .int .i64 0, (.slice none 0 0)] 26 (0, 0))) ∧ Aside0 (w'.heap[z]? = some (.cells #[.int .i64 X, .int .i64 (wrap64 (Y + 1)), (.slice Q q.length R)] 26 (0, 0))) ∧ Aside0 (Below w.heap.size w w'))
 case atStart => exact ⟨(0), rs_, H', ⟨Nat.le_refl _⟩, ⟨Kd.S_mono (sp_ s.out) (fun _ hk => ⟨hk.1.2, ⟨hk.1.1.2, hk.2⟩⟩)⟩, ⟨bq_ b.out⟩, ⟨bq_ a.out⟩, ⟨bq_ l.out⟩, ⟨bq_ c.out⟩, ⟨hs_ F.out⟩⟩
 case round =>
  clear H'
  obtain ⟨A, rfl, HA, yd, d, b, a, l, c, F⟩ := hrel
  cases gk with
  | zero => exact absurd HA.out (by simp [impl_PutIn.l0])
  | succ k1 =>
   have H := HA.out
   clear HA
   simp only [impl_PutIn.l0] at H
   have ed := Aside0.mk H
   clear H
   go_upto_region 10 with (fail)
   go_cut [58] (fun Rh wc => ∃ (kq : Nat) (Nb : Bool), Rh = .bool Nb ∧ Aside0 (impl_PutIn.j1 kq I A Nb G T U V X (wrap64 (Y + 1)) q = some (r1, r2, r3, r4)) ∧ Aside0 (kq ≤ k1) ∧ Aside0 (Kd.S k80 80 wc w.heap.size (fun k_ => k_ ≠ m ∧ Z ≤ k_ ∧ k_ < z) (.slice Q q.length R) q) ∧ Aside0 (wc.heap[W]? = some (.cells #[.int .i64 aa, .int .i64 ba, (.slice Qa D.length Da)] 26 (0, 0))) ∧ Aside0 (wc.heap[m]? = some (.cells #[(.slice ca G.length da), .int .i64 T, .int .i64 U, .string V] 29 (0, 0))) ∧ Aside0 (wc.heap[ja]? = some (.cells #[.int .i64 0, .int .i64 0, (.slice none 0 0)] 26 (0, 0))) ∧ Aside0 (wc.heap[z]? = some (.cells #[.int .i64 X, .int .i64 (wrap64 (Y + 1)), (.slice Q q.length R)] 26 (0, 0))) ∧ Aside0 (Below w.heap.size w wc))
   case first =>
    have H := ed.out
    clear ed
    replace H := ie_ H; rcases H with ⟨fd, H⟩ | ⟨fd, H⟩
    ·
     have Cb := decide_eq_true fd
     clear fd
     (first | rw [Cb] | (simp only [i64_w, i32_w]; rw [Cb]) | skip)
     replace H := id_ H; obtain ⟨Sh, H⟩ := H
     have H' := Aside0.mk H
     clear H
     have Th := ma.out
     have Uh := la.out
     have Vh := oa.out
     have Wh := na.out
     have Xh := qa.out
     have Yh := pa.out
     obtain ⟨Zh, ai, bi, ci, di, ei⟩ := bc3_ c.out
     obtain ⟨yc, zc⟩ : 0 ≤ (A : Int) ∧ A < (q.length : Int) := pq_
     obtain ⟨fi, ff, gf, Oe, Pe, gd, fc, gc⟩ := at_T80 (Kd.S_reads' d.out).2.2 A yc zc
     cases Oe
     obtain ⟨gi, zd, Ad, Ac⟩ := Kd.S_get d.out z80 A yc (by first | exact zc | exact of_decide_eq_true (by with_reducible assumption) | (have e_ := (Kd.S_reads' d.out).1; omega))
     obtain ⟨Qe, rfl, Db⟩ := k80_openM Ad
     have mb := Ac 1 _ rfl
     rw [add_field _ _ 1 (by omega)] at mb
     replace mb := Option.some.inj (mb.symm.trans gd)
     rw [mb] at Db
     have Re := Aside0.mk (show Kd.S k29 29 _ _ _ _ ((rd_T80 q A).f1) from Db)
     clear mb Db Ac zd
     have Se := Aside0.mk gc
     have Te := Aside0.mk fc
     clear gc fc
     replace yc := eq_true yc; replace zc := eq_true zc
     go_wp2
     go_meet
     case rel => exact ⟨_, (decide (((rd_T80 q A).f0) ≤ I)), rs_, H', ⟨by have := yd.out; first | omega | exact Nat.le_refl _⟩, ⟨sp_ d.out⟩, ⟨bq_ b.out⟩, ⟨bq_ a.out⟩, ⟨bq_ l.out⟩, ⟨bq_ c.out⟩, ⟨hs_ F.out⟩⟩
    have Cb : decide (A < (q.length : Int)) = false := decide_eq_false fd
    clear fd
    (first | rw [Cb] | (simp only [i64_w, i32_w]; rw [Cb]) | skip)
    have H' := Aside0.mk H
    clear H
    have hi := ma.out
    have ii := la.out
    have ji := oa.out
    have ki := na.out
    have li := qa.out
    have mi := pa.out
    obtain ⟨ni, oi, pi, qi, ri, si⟩ := bc3_ c.out
    go_wp2
    go_meet
    case rel => exact ⟨_, (false), rs_, H', ⟨by have := yd.out; first | omega | exact Nat.le_refl _⟩, ⟨sp_ d.out⟩, ⟨bq_ b.out⟩, ⟨bq_ a.out⟩, ⟨bq_ l.out⟩, ⟨bq_ c.out⟩, ⟨hs_ F.out⟩⟩
   case rest =>
    clear ed
    obtain ⟨kq, Nb, rfl, HA, HJ66, d, b, a, l, c, F⟩ := hcut
    cases kq with
    | zero => exact absurd HA.out (by simp [impl_PutIn.j1])
    | succ Ue =>
     have H := HA.out
     clear HA
     simp only [impl_PutIn.j1] at H
     replace H := ib_ H; rcases H with ⟨rfl, H⟩ | ⟨rfl, H⟩
     ·
      have H' := Aside0.mk H
      clear H
      go_wp2
      go_roundg Ue
      case measure => have := yd.out; have := HJ66.out; omega
      case rel => exact ⟨(wrap64 (A + 1)), rs_, H', ⟨by have := yd.out; have := HJ66.out; omega⟩, ⟨sp_ d.out⟩, ⟨bq_ b.out⟩, ⟨bq_ a.out⟩, ⟨bq_ l.out⟩, ⟨bq_ c.out⟩, ⟨hs_ F.out⟩⟩
     replace H := bi_ H; obtain ⟨⟨Kb, hc, ic, jc⟩, ti, H⟩ := H; (try dsimp only at H)
     obtain ⟨B, hy_⟩ : ∃ y_ : List (S29), y_ = (([(⟨Kb, hc, ic, jc⟩ : S29)] : List (S29))) := ⟨_, rfl⟩
     replace H : (if 0 ≤ A then (if A ≤ (q.length : Int) then ((some (q.drop (A : Int).toNat : List (S80))).bind fun Ua => ((some (q.take (A : Int).toNat : List (S80))).bind fun Ha => (if ([] : List (S80)).length + Ha.length < 4398046511104 then ((some (([] : List (S80)) ++ Ha : List (S80))).bind fun Ja => (if Ja.length < 4398046511104 then ((some (Ja ++ [(⟨I, B⟩ : S80)] : List (S80))).bind fun Ia => (if Ia.length + Ua.length < 4398046511104 then (some (X, (wrap64 (Y + 1)), (Ia ++ Ua), true)) else (none))) else (none))) else (none)))) else (none)) else (none)) = some (r1, r2, r3, r4) := hm_
     have ae := Aside0.mk hy_; clear hy_
     replace H := in_ H; obtain ⟨be, H⟩ := H
     have ui := eq_true be
     have vi := decide_eq_true be
     clear be
     replace H := in_ H; obtain ⟨ce, H⟩ := H
     have wi := eq_true ce
     have xi := decide_eq_true ce
     clear ce
     obtain ⟨Ua, hy_⟩ : ∃ y_ : List (S80), y_ = (q.drop (A : Int).toNat) := ⟨_, rfl⟩
     replace H : ((some (q.take (A : Int).toNat : List (S80))).bind fun Ha => (if ([] : List (S80)).length + Ha.length < 4398046511104 then ((some (([] : List (S80)) ++ Ha : List (S80))).bind fun Ja => (if Ja.length < 4398046511104 then ((some (Ja ++ [(⟨I, B⟩ : S80)] : List (S80))).bind fun Ia => (if Ia.length + Ua.length < 4398046511104 then (some (X, (wrap64 (Y + 1)), (Ia ++ Ua), true)) else (none))) else (none))) else (none))) = some (r1, r2, r3, r4) := hm_
     have Ob := Aside0.mk hy_; clear hy_
     obtain ⟨Ha, hy_⟩ : ∃ y_ : List (S80), y_ = (q.take (A : Int).toNat) := ⟨_, rfl⟩
     replace H : (if ([] : List (S80)).length + Ha.length < 4398046511104 then ((some (([] : List (S80)) ++ Ha : List (S80))).bind fun Ja => (if Ja.length < 4398046511104 then ((some (Ja ++ [(⟨I, B⟩ : S80)] : List (S80))).bind fun Ia => (if Ia.length + Ua.length < 4398046511104 then (some (X, (wrap64 (Y + 1)), (Ia ++ Ua), true)) else (none))) else (none))) else (none)) = some (r1, r2, r3, r4) := hm_
     have jd := Aside0.mk hy_; clear hy_
     replace H := im_ H; obtain ⟨kd, H⟩ := H
     obtain ⟨Ja, hy_⟩ : ∃ y_ : List (S80), y_ = (([] : List (S80)) ++ Ha) := ⟨_, rfl⟩
     replace H : (if Ja.length < 4398046511104 then ((some (Ja ++ [(⟨I, B⟩ : S80)] : List (S80))).bind fun Ia => (if Ia.length + Ua.length < 4398046511104 then (some (X, (wrap64 (Y + 1)), (Ia ++ Ua), true)) else (none))) else (none)) = some (r1, r2, r3, r4) := hm_
     have ld := Aside0.mk hy_; clear hy_
     replace H := im_ H; obtain ⟨de, H⟩ := H
     obtain ⟨Ia, hy_⟩ : ∃ y_ : List (S80), y_ = (Ja ++ [(⟨I, B⟩ : S80)]) := ⟨_, rfl⟩
     replace H : (if Ia.length + Ua.length < 4398046511104 then (some (X, (wrap64 (Y + 1)), (Ia ++ Ua), true)) else (none)) = some (r1, r2, r3, r4) := hm_
     have ee := Aside0.mk hy_; clear hy_
     replace H := im_ H; obtain ⟨fe, H⟩ := H
     obtain ⟨md, hy_⟩ : ∃ y_ : List (S80), y_ = (Ia ++ Ua) := ⟨_, rfl⟩
     replace H : (some (X, (wrap64 (Y + 1)), md, true)) = some (r1, r2, r3, r4) := hm_
     have ge := Aside0.mk hy_; clear hy_
     simp only [Option.some.injEq, Prod.mk.injEq] at H
     obtain ⟨rfl, rfl, rfl, rfl⟩ := H
     have yi := Wa.out
     have zi := Va.out
     have Ai := Za.out
     have Bi := ab.out
     have Ci := na.out
     have Di := oa.out
     obtain ⟨Ei, Fi, Gi, Hi, Ii, Ji, Ki, Li⟩ := bc4_ a.out
     try go_wp2_with (first | ((with_reducible refine gate_callee (f := 58) rfl ?_); refine gl_ (some 63) Tryz.func58 #[.agg #[.slice ca G.length da, .int .i64 T, .int .i64 U, .string V]] ?_; (with_reducible refine (impl_copyAlarm.calls _ _ G T U V Kb hc ic jc _ ?side1 ?side2 ti.out).mono ?_); (case side1 => exact cp_ ((Kd.C_below wb.out F.out))); (case side2 => exact xb.out); rintro e Mi ⟨oj, rfl, bb, hb⟩; refine ⟨_, rfl, ?_⟩; obtain ⟨ia, nd⟩ := Kd.R_name bb; replace d := su_ nd (sp_ d.out) hb; have Eb := rg_ nd bb F; replace b := bk2_ b hb; replace a := bk2_ a hb; replace l := bk2_ l hb; replace c := bk2_ c hb; replace F := st_ F hb; (try clear hb); (try clear hk); (try clear bb); obtain ⟨Hd, Id, Ve⟩ := Kd.R_slice Eb.out; subst Ve) | ((with_reducible refine gd_ 64 rfl ?_); refine Kd.S_lit2 k29 w.heap.size 29 ?hg (N := 64) ?hd (x := (⟨Kb, hc, ic, jc⟩ : S29)) (cs := [.slice Hd Kb.length Id, .int .i64 hc, .int .i64 ic, .string jc]) (ok := (fun k_ => k_ ≠ m)) (okp := (fun k_ => some k_ = (.slice Hd Kb.length Id : Value).ownBlock)) (fun k_ => ia ≤ k_) ?hr ?hp (fun k_ hk_ => (fun e_ => e_.1.2) ((Kd.R_types (Eb.out) a.out (by decide)).1 k_ hk_.symm)) (fun k_ hk_ => ((Kd.R_mono (ok' := (fun k_ => k_ ≠ m)) (Kd.R_types (Eb.out) a.out (by decide)) (fun k_ hk => hk.2))).1 k_ hk_.symm) ?hf ?aS ?_; (case hd => rfl); (case hg => rfl); (case hr => first | (go_simp; done) | (go_simp; rfl)); (case hp => exact (k29_mkM _ _ _ (⟨Kb, hc, ic, jc⟩ : S29) (Kd.R_mono (Kd.R_tight rfl (Kd.R_mono (ok' := (fun k_ => k_ ≠ m)) (Kd.R_types (Eb.out) a.out (by decide)) (fun k_ hk => hk.2))) (fun _ h_ => h_)))); (case hf => exact (show ∀ k_, Mi.heap.size ≤ k_ → ((fun k_ => k_ ≠ m)) k_ from fun k_ hk => Kd.freshB (g := m) (o := .cells #[.slice ca G.length da, .int .i64 T, .int .i64 U, .string V] 29 (0, 0)) (pb_ a.out) k_ hk) _ (Nat.le_refl _)); (case aS => exact (below_size (hs_ F.out))); intro pj Ij od hb hnew_; rw [← ae.out] at od; replace d := Aside0.mk (Kd.S_elder' (sp_ d.out) hnew_ hb); have O := Aside0.mk (od); replace b := bk2_ b hb; replace a := bk2_ a hb; replace l := bk2_ l hb; replace c := bk2_ c hb; replace F := st_ F hb; clear Eb; clear hb hnew_ od; obtain ⟨L, M, We⟩ := Kd.S_slice O.out; subst We) | ((with_reducible refine gd_ 12 rfl ?_); refine bv_ 12 #[.int .i64 0, .slice none 0 0] 80 ?_; intro r hg Oi J hb; replace d := Aside0.mk (Kd.S_below (Kd.S_ltz hg (Kd.S_elderB (sp_ d.out) r (Nat.le_of_eq hg.symm))) hb); replace O := Aside0.mk (Kd.S_below (Kd.S_ltz hg (sp_ O.out)) hb); have u := Aside0.mk (J); have he := gq_ hg F; replace F := st_ F hb; have Pi := Ge_.mk he.out; obtain ⟨rc, sc, b⟩ := nb_ b hg hb; obtain ⟨tc, uc, a⟩ := nb_ a hg hb; obtain ⟨vc, xc, l⟩ := nb_ l hg hb; obtain ⟨Fb, Gb, c⟩ := nb_ c hg hb; clear hb J hg; have Qi := sc.out; have Ri := rc.out; have Si := uc.out; have Ti := tc.out; have Ui := xc.out; have Vi := vc.out; have Wi := Gb.out; have Xi := Fb.out; obtain ⟨Yi, Zi, aj, bj⟩ := bc2_ u.out))
     generalize hw_ : ((Oi.setCell ⟨r, 0, none⟩ (.int .i64 I)).setCell ⟨r, 1, none⟩ (.slice L B.length M)) = sb
     have Wc : Aside0 (Kd.S k80 80 sb w.heap.size (fun k_ => some k_ ≠ (.slice L B.length M : Value).ownBlock ∧ k_ ≠ m ∧ Z ≤ k_ ∧ k_ < z ∧ k_ < ia ∧ k_ ≠ r ∧ k_ < r) (.slice Q q.length R) q) := ⟨by rw [← hw_]; exact (Kd.S_mono (sf_ r d.out (fun _ hk => hk.1.2)) (fun _ hk => ⟨hk.1.1.2, ⟨hk.1.1.1.1.1, ⟨hk.1.1.1.1.2.1, ⟨hk.1.1.1.1.2.2, ⟨hk.1.1.1.2, ⟨hk.1.2, hk.2⟩⟩⟩⟩⟩⟩))⟩
     have Xc : Aside0 (Kd.S k29 29 sb w.heap.size (fun k_ => k_ ≠ m ∧ (some k_ = (.slice L B.length M : Value).ownBlock ∨ ia ≤ k_) ∧ k_ < r) (.slice L B.length M) B) := ⟨by rw [← hw_]; exact (Kd.S_mono (sy_ O.out u.out) (fun _ hk => ⟨hk.1.1, ⟨hk.1.2, hk.2⟩⟩))⟩
     have Yc : Aside0 (sb.heap[W]? = some (.cells #[.int .i64 aa, .int .i64 ba, .slice Qa D.length Da] 26 (0, 0))) := ⟨by rw [← hw_]; exact (bq_ b.out)⟩
     have Zc : Aside0 (sb.heap[m]? = some (.cells #[.slice ca G.length da, .int .i64 T, .int .i64 U, .string V] 29 (0, 0))) := ⟨by rw [← hw_]; exact (bq_ a.out)⟩
     have ad : Aside0 (sb.heap[ja]? = some (.cells #[.int .i64 0, .int .i64 0, .slice none 0 0] 26 (0, 0))) := ⟨by rw [← hw_]; exact (bq_ l.out)⟩
     have bd : Aside0 (sb.heap[z]? = some (.cells #[.int .i64 X, .int .i64 (wrap64 (Y + 1)), .slice Q q.length R] 26 (0, 0))) := ⟨by rw [← hw_]; exact (bq_ c.out)⟩
     have cd : Aside0 (sb.heap[r]? = some (.cells #[.int .i64 I, .slice L B.length M] 80 (0, 0))) := ⟨by rw [← hw_]; exact (bp_ u.out)⟩
     have dd : Aside0 (Below w.heap.size w sb) := ⟨by rw [← hw_]; exact (hs_ F.out)⟩
     clear hw_
     (try clear d)
     (try clear O)
     (try clear b)
     (try clear a)
     (try clear l)
     (try clear c)
     (try clear u)
     (try clear F)
     have d := Wc
     have O := Xc
     have b := Yc
     have a := Zc
     have l := ad
     have c := bd
     have u := cd
     have F := dd
     clear Wc Xc Yc Zc ad bd cd dd
     have qp101 : (A : Int) ≤ ((q.length : Int) : Int) := of_decide_eq_true (by with_reducible assumption)
     have Bd : (0 : Int) ≤ (A : Int) := of_decide_eq_true (by with_reducible assumption)
     have hlxp101 := (Kd.S_reads' d.out).1
     obtain ⟨i0p101, Hb, _, hszp101, _⟩ := info_parts info80
     have hcutp101 := cut_to (P := Tryz.prog) 24 80 .i64 Tryz.underlying24 Hb Q q.length R A (of_decide_eq_true (by with_reducible assumption)) qp101 (Kd.S_reads' d.out).2.1
     have hcutbp101 := cut_from (P := Tryz.prog) 24 80 .i64 Tryz.underlying24 Hb 2 hszp101 Q q.length R A Bd qp101
     have KLp101 := Aside0.mk (show (A : Int).toNat ≤ q.length from by omega)
     obtain ⟨GXp101, hsrp101, hspp101, hglp101⟩ := Kd.S_split d.out ((A : Int).toNat) KLp101.out
     have HGp101 := Aside0.mk (show ∀ k_, GXp101 k_ → k_ < r from fun k_ hk => (hglp101 k_ hk).2.2.2.2.2.2)
     have hyp101 : Ha.length = (A : Int).toNat := (by rw [jd.out, List.length_take]; omega)
     rw [← jd.out] at hspp101
     rw [← hyp101] at hspp101 hcutp101
     obtain ⟨Ap101b, hAbp101⟩ : ∃ A1, A1 = (if R = (A : Int).toNat then Q else (Q : Option Addr).map (·.add ((A : Int).toNat * 2))) := ⟨_, rfl⟩
     obtain ⟨cp101b, hcbp101⟩ : ∃ c1, c1 = R - (A : Int).toNat := ⟨_, rfl⟩
     have hybp101 : Ua.length = q.length - (A : Int).toNat := (by rw [Ob.out, List.length_drop])
     rw [← hybp101, ← hAbp101, ← hcbp101] at hcutbp101
     have KAp101 := Aside0.mk hAbp101
     clear hcbp101 hAbp101 hybp101 hlxp101
     obtain ⟨GXp101P, hPPp101, hlPp101⟩ := Kd.S_fp hspp101
     have HGp101P := Aside0.mk (show ∀ k_, GXp101P k_ → k_ < r from fun k_ hk => (hlPp101 k_ hk).1.1.2.2.2.2.2.2)
     obtain ⟨GXp101u0, hPXp101u0, hPlp101u0⟩ := Kd.S_fp (O.out)
     have HGp101u0 := Aside0.mk (show ∀ k_, GXp101u0 k_ → k_ < r from fun k_ hk_ => (hPlp101u0 k_ hk_).1.2.2)
     have nup101u0 := Aside0.mk (Kd.S_mono hPXp101u0 (fun k_ hk_ => (⟨⟨(hPlp101u0 k_ hk_).1, hk_⟩, fun g_ => Or.elim (hPlp101u0 k_ hk_).1.2.1 (fun e3_ => (hglp101 k_ g_).1 e3_) (fun e3_ => Nat.lt_irrefl _ (Nat.lt_of_lt_of_le (hglp101 k_ g_).2.2.2.2.1 e3_))⟩ : (_ ∧ GXp101u0 k_) ∧ ¬ GXp101 k_)))
     have Pa := Aside0.mk (Kd.S_mono (Kd.S_mono hPPp101 (fun k_ hk_ => (⟨(hlPp101 k_ hk_).1, hk_⟩ : _ ∧ GXp101P k_))) (fun k_ hk => (⟨hk, fun g_ => Or.elim (hPlp101u0 k_ g_).1.2.1 (fun e3_ => hk.1.1.1 e3_) (fun e3_ => Nat.lt_irrefl _ (Nat.lt_of_lt_of_le hk.1.1.2.2.2.2.1 e3_))⟩ : _ ∧ ¬ GXp101u0 k_)))
     clear d
     have d := Aside0.mk hsrp101
     clear O
     have O := nup101u0
     clear nup101u0 hPXp101u0 hPlp101u0 hsrp101 hspp101 hglp101 hPPp101 hlPp101 hyp101 Hb hszp101
     replace qp101 := eq_true qp101
     replace d := Aside0.mk (Kd.S_drew d.out)
     replace O := Aside0.mk (Kd.S_drew O.out)
     replace Pa := Aside0.mk (Kd.S_drew Pa.out)
     replace b := Aside0.mk (blk_drew b.out)
     replace a := Aside0.mk (blk_drew a.out)
     replace l := Aside0.mk (blk_drew l.out)
     replace c := Aside0.mk (blk_drew c.out)
     replace u := Aside0.mk (blk_drew u.out)
     replace F := Aside0.mk (bd_ F.out)
     refine start_ (n := 15) (S := fun w' => w'.cell? ⟨z, 0, none⟩ = some (.int .i64 X) ∧ w'.cell? ⟨z, 1, none⟩ = some (.int .i64 (wrap64 (Y + 1))) ∧ w'.cell? ⟨z, 2, none⟩ = some (.slice Q q.length R) ∧ w'.cell? ⟨r, 0, none⟩ = some (.int .i64 I) ∧ w'.cell? ⟨r, 1, none⟩ = some (.slice L B.length M)) (ds := [14]) (b_ 0 15) (by kernel_rfl) rfl rfl ⟨bx_ c.out 0, bx_ c.out 1, bx_ c.out 2, bx_ u.out 0, bx_ u.out 1⟩ (fun E => ?_); refine with_tabW impl_PutIn.tab13 impl_PutIn.bits13 (fun ka Bc => ?_)
     generalize sb.drew = qj at d O Pa b a l c u F E ⊢
     refine p_ ka ?_
     refine qw_ 2 (m_ 15 5) ka ?_
     refine qw_ 8 (m_ 15 261) ka ?_
     refine qw_ 10 (m_ 15 1285) ka ?_
     refine qt_ 1 (m_ 15 1287) ka Bc E ?_
     refine qw_ 3 (m_ 15 1295) ka ?_
     refine qt_ 5 (m_ 15 1327) ka Bc E ?_
     refine qt_ 9 (m_ 15 1839) ka Bc E ?_
     refine qw_ 11 (m_ 15 3887) ka ?_
     refine join_ (σ := Value × Nat) 4 (m_ 15 3967) (fun s_ => [(70, s_.1), (72, .slice (some ⟨s_.2, 0, none⟩) 1 1)]) (fun s_ w' => (w'.cell? ⟨z, 0, none⟩ = some (.int .i64 X) ∧ w'.cell? ⟨z, 1, none⟩ = some (.int .i64 (wrap64 (Y + 1))) ∧ w'.cell? ⟨z, 2, none⟩ = some (.slice Q q.length R) ∧ w'.cell? ⟨r, 0, none⟩ = some (.int .i64 I) ∧ w'.cell? ⟨r, 1, none⟩ = some (.slice L B.length M)) ∧ (Kd.S k29 29 w' w.heap.size (fun k_ => k_ ≠ m ∧ GXp101u0 k_ ∧ k_ < r ∧ ¬ GXp101 k_ ∧ (some k_ = (.slice L B.length M : Value).ownBlock ∨ ia ≤ k_)) (.slice L B.length M) B) ∧ (Kd.S k80 80 w' w.heap.size (fun k_ => some k_ ≠ (.slice L B.length M : Value).ownBlock ∧ some k_ ≠ (.slice Q q.length R : Value).ownBlock ∧ k_ ≠ m ∧ k_ ≠ r ∧ k_ ≠ s_.2 ∧ ¬ GXp101 k_ ∧ ¬ GXp101u0 k_) s_.1 Ja) ∧ (Kd.S (Kd.opt k80) 80 w' w.heap.size (fun k_ => some k_ ≠ (.slice L B.length M : Value).ownBlock ∧ some k_ ≠ (s_.1 : Value).ownBlock ∧ k_ ≠ m ∧ k_ ≠ r ∧ k_ ≠ s_.2 ∧ Z ≤ k_ ∧ GXp101 k_ ∧ k_ < z ∧ k_ < r ∧ k_ < ia) (.slice Q q.length R) (Kd.gap ((A : Int).toNat) q)) ∧ (w'.heap[W]? = some (.cells #[.int .i64 aa, .int .i64 ba, .slice Qa D.length Da] 26 (0, 0))) ∧ (w'.heap[m]? = some (.cells #[.slice ca G.length da, .int .i64 T, .int .i64 U, .string V] 29 (0, 0))) ∧ (w'.heap[ja]? = some (.cells #[.int .i64 0, .int .i64 0, .slice none 0 0] 26 (0, 0))) ∧ (w'.heap[z]? = some (.cells #[.int .i64 X, .int .i64 (wrap64 (Y + 1)), .slice Q q.length R] 26 (0, 0))) ∧ (w'.heap[r]? = some (.cells #[.int .i64 I, .slice L B.length M] 80 (0, 0))) ∧ (w'.heap[s_.2]? = some (.cells #[.int .i64 I, .slice L B.length M] 80 (0, 0))) ∧ (w.heap.size ≤ s_.2) ∧ (w.heap.size ≤ s_.2) ∧ (W ≠ s_.2) ∧ (s_.2 ≠ W) ∧ (m ≠ s_.2) ∧ (s_.2 ≠ m) ∧ (ja ≠ s_.2) ∧ (s_.2 ≠ ja) ∧ (z ≠ s_.2) ∧ (s_.2 ≠ z) ∧ (r ≠ s_.2) ∧ (s_.2 ≠ r) ∧ (Below w.heap.size w w')) ?_ ?_
     rotate_left
     ·
      intro Ab
      refine two_ (i := 4) (j := 6) (Ni := some 70) (Nj := some 72) (m_ 15 3903) (m_ 15 3951) rfl rfl rfl rfl (two_of ka.out (by kernel_rfl)) (by decide) (by decide) (fun K hK => ?_) (fun K hK => ?_)
      ·
       skip
       refine Kd.S_append_part_step k80 (w0 := w) w.heap.size (by rfl) (.const (.slice none 0 0)) (.tmp 69) 24 80 (.agg #[(.int .i64 0), (.slice none 0 0)]) 32 rfl Tryz.underlying24 info80 rfl (by decide) (by omega) (.slice none 0 0) ([] : List (S80)) Ha _ _ _ (fun k_ => some k_ ≠ (.slice Q q.length R : Value).ownBlock ∧ some k_ ≠ (.slice L B.length M : Value).ownBlock ∧ k_ ≠ m ∧ k_ ≠ r ∧ ¬ GXp101 k_ ∧ ¬ GXp101u0 k_) (fun k_ => some k_ ≠ (.slice L B.length M : Value).ownBlock ∧ k_ ≠ m ∧ Z ≤ k_ ∧ k_ < z ∧ k_ < ia ∧ k_ ≠ r ∧ k_ < r ∧ (¬ GXp101 k_ ∨ some k_ = (.slice Q Ha.length R : Value).ownBlock) ∧ GXp101P k_ ∧ ¬ GXp101u0 k_) rfl rfl ?aR (fun k_ hx_ ho_ => by have hz_ : ((((fun k_ => some k_ ≠ (.slice L B.length M : Value).ownBlock ∧ k_ ≠ m ∧ Z ≤ k_ ∧ k_ < z ∧ k_ < ia ∧ k_ ≠ r ∧ k_ < r ∧ (¬ GXp101 k_ ∨ some k_ = (.slice Q Ha.length R : Value).ownBlock) ∧ GXp101P k_ ∧ ¬ GXp101u0 k_)) k_ ∧ ¬ GXp101 k_) ∧ some k_ ≠ (.slice Q q.length R : Value).ownBlock) := ⟨⟨hx_, fun g_ => (hx_.2.2.2.2.2.2.2.1).elim (fun h_ => h_ g_) (fun h_ => ho_ h_)⟩, fun e_ => ho_ (e_.trans Kd.own_len)⟩; exact ⟨⟨hz_.2, ⟨hz_.1.1.1, ⟨hz_.1.1.2.1, ⟨hz_.1.1.2.2.2.2.2.1, ⟨hz_.1.2, hz_.1.1.2.2.2.2.2.2.2.2.2⟩⟩⟩⟩⟩, (by simp [Value.ownBlock])⟩) ?aF ?aO ?aB ?aS ?aL ?_
       (case aR => exact (Kd.S_mono (Pa.out) (fun k_ hk => ⟨hk.1.1.1.1, ⟨hk.1.1.1.2.1, ⟨hk.1.1.1.2.2.1, ⟨hk.1.1.1.2.2.2.1, ⟨hk.1.1.1.2.2.2.2.1, ⟨hk.1.1.1.2.2.2.2.2.1, ⟨hk.1.1.1.2.2.2.2.2.2, ⟨hk.1.1.2, ⟨hk.1.2, hk.2⟩⟩⟩⟩⟩⟩⟩⟩⟩)))
       (case aB => exact (hs_ F.out))
       (case aF => exact (fun k_ hk => ⟨Kd.fresh' (Kd.S_lt (sp_ d.out)) k_ hk, Kd.fresh' (Kd.S_lt (sp_ O.out)) k_ hk, Kd.freshB (g := m) (o := .cells #[.slice ca G.length da, .int .i64 T, .int .i64 U, .string V] 29 (0, 0)) (pb_ a.out) k_ hk, Kd.freshB (g := r) (o := .cells #[.int .i64 I, .slice L B.length M] 80 (0, 0)) (pb_ u.out) k_ hk, (fun g_ => Nat.lt_irrefl _ (Nat.lt_of_lt_of_le (Nat.lt_trans (HGp101.out k_ g_) (blk_lt (pb_ u.out))) hk)), (fun g_ => Nat.lt_irrefl _ (Nat.lt_of_lt_of_le (Nat.lt_trans (HGp101u0.out k_ g_) (blk_lt (pb_ u.out))) hk))⟩))
       (case aO => exact ((Kd.S_nil _ _ _ _ _)))
       (case aS => exact (below_size (hs_ F.out)))
       (case aL => have := kd.out; omega)
       intro Ib Xe ho hb hg hat
       rw [← ld.out] at ho
       replace d := Aside0.mk (Kd.S_after (Kd.S_apart_nil (sp_ d.out)) hg hat)
       replace b := Aside0.mk (blk_grown (bq_ b.out) hg (by simp [Value.ownBlock]))
       replace a := Aside0.mk (blk_grown (bq_ a.out) hg (by simp [Value.ownBlock]))
       replace l := Aside0.mk (blk_grown (bq_ l.out) hg (by simp [Value.ownBlock]))
       replace c := Aside0.mk (blk_grown (bq_ c.out) hg (by simp [Value.ownBlock]))
       replace O := Aside0.mk (Kd.S_grown (sp_ O.out) hg (fun _ _ => by simp [Value.ownBlock]))
       replace u := Aside0.mk (blk_grown (bq_ u.out) hg (by simp [Value.ownBlock]))
       replace F := Aside0.mk (hb)
       have Ba := Aside0.mk (ho)
       clear Pa
       clear ho hb hg hat
       refine ho_ hK (f3_ c.out (e2_ u.out)) (fun E => ?_)
       refine o1_ 6 (m_ 15 3967) ka (fun K hK => ?_)
       refine box_stepL ?hg (N := 72) ?hd (cs := #[.int .i64 I, .slice L B.length M]) (t := 80) ?hr ?_; (case hd => rfl); (case hg => rfl); (case hr => first | (go_simp; done) | (go_simp; rfl))
       intro ha hg Ye J hb
       replace d := se_ d hg hb
       replace O := sb_ O hb
       replace Ba := se_ Ba hg hb
       have Ca := Aside0.mk (J)
       have Pb := gq_ hg F
       have Qb := gq_ hg F
       replace F := st_ F hb
       have cb := nk_ b hg
       have db := Ne_.mk (ng_ b.out hg)
       replace b := bk2_ b hb
       have eb := nk_ a hg
       have fb := Ne_.mk (ng_ a.out hg)
       replace a := bk2_ a hb
       have Ka := nk_ l hg
       have La := Ne_.mk (ng_ l.out hg)
       replace l := bk2_ l hb
       have Ea := nk_ c hg
       have Fa := Ne_.mk (ng_ c.out hg)
       replace c := bk2_ c hb
       have gb := nk_ u hg
       have ib := Ne_.mk (ng_ u.out hg)
       replace u := bk2_ u hb
       clear hb J hg
       refine ho_ hK (f3_ c.out (e2_ u.out)) (fun E => ?_)
       exact norm_ (by simp only [putAll, fr_]) (Ab (Ib, ha) _ ⟨E, (Kd.S_mono (sp_ O.out) (fun _ hk => ⟨hk.1.1.1, ⟨hk.1.2, ⟨hk.1.1.2.2, ⟨hk.2, hk.1.1.2.1⟩⟩⟩⟩)), (Kd.S_mono (sp_ Ba.out) (fun _ hk => ⟨hk.1.2.1, ⟨hk.1.1, ⟨hk.1.2.2.1, ⟨hk.1.2.2.2.1, ⟨hk.2, ⟨hk.1.2.2.2.2.1, hk.1.2.2.2.2.2⟩⟩⟩⟩⟩⟩)), (Kd.S_mono (sp_ d.out) (fun _ hk => ⟨hk.1.1.1.1, ⟨hk.1.2, ⟨hk.1.1.1.2.1, ⟨hk.1.1.1.2.2.2.2.2.1, ⟨hk.2, ⟨hk.1.1.1.2.2.1, ⟨hk.1.1.2, ⟨hk.1.1.1.2.2.2.1, ⟨hk.1.1.1.2.2.2.2.2.2, hk.1.1.1.2.2.2.2.1⟩⟩⟩⟩⟩⟩⟩⟩⟩)), (pb_ b.out), (pb_ a.out), (pb_ l.out), (pb_ c.out), (pb_ u.out), (pb_ Ca.out), Pb.out, Qb.out, cb.out, db.out, eb.out, fb.out, Ka.out, La.out, Ea.out, Fa.out, gb.out, ib.out, (hs_ F.out)⟩)
      skip
      refine box_stepL ?hg (N := 72) ?hd (cs := #[.int .i64 I, .slice L B.length M]) (t := 80) ?hr ?_; (case hd => rfl); (case hg => rfl); (case hr => first | (go_simp; done) | (go_simp; rfl))
      intro ha hg Xe J hb
      replace d := se_ d hg hb
      replace O := sb_ O hb
      replace Pa := se_ Pa hg hb
      have Ca := Aside0.mk (J)
      have Pb := gq_ hg F
      have Qb := gq_ hg F
      replace F := st_ F hb
      have cb := nk_ b hg
      have db := Ne_.mk (ng_ b.out hg)
      replace b := bk2_ b hb
      have eb := nk_ a hg
      have fb := Ne_.mk (ng_ a.out hg)
      replace a := bk2_ a hb
      have Ka := nk_ l hg
      have La := Ne_.mk (ng_ l.out hg)
      replace l := bk2_ l hb
      have Ea := nk_ c hg
      have Fa := Ne_.mk (ng_ c.out hg)
      replace c := bk2_ c hb
      have gb := nk_ u hg
      have ib := Ne_.mk (ng_ u.out hg)
      replace u := bk2_ u hb
      clear hb J hg
      refine ho_ hK (f3_ c.out (e2_ u.out)) (fun E => ?_)
      refine o1_ 4 (m_ 15 3967) ka (fun K hK => ?_)
      refine Kd.S_append_part_step k80 (w0 := w) w.heap.size (by rfl) (.const (.slice none 0 0)) (.tmp 69) 24 80 (.agg #[(.int .i64 0), (.slice none 0 0)]) 32 rfl Tryz.underlying24 info80 rfl (by decide) (by omega) (.slice none 0 0) ([] : List (S80)) Ha _ _ _ (fun k_ => some k_ ≠ (.slice Q q.length R : Value).ownBlock ∧ some k_ ≠ (.slice L B.length M : Value).ownBlock ∧ k_ ≠ m ∧ k_ ≠ r ∧ k_ ≠ ha ∧ ¬ GXp101 k_ ∧ ¬ GXp101u0 k_) (fun k_ => some k_ ≠ (.slice L B.length M : Value).ownBlock ∧ k_ ≠ m ∧ Z ≤ k_ ∧ k_ < z ∧ k_ < ia ∧ k_ ≠ r ∧ k_ < r ∧ (¬ GXp101 k_ ∨ some k_ = (.slice Q Ha.length R : Value).ownBlock) ∧ GXp101P k_ ∧ ¬ GXp101u0 k_ ∧ k_ ≠ ha) rfl rfl ?aR (fun k_ hx_ ho_ => by have hz_ : ((((fun k_ => some k_ ≠ (.slice L B.length M : Value).ownBlock ∧ k_ ≠ m ∧ Z ≤ k_ ∧ k_ < z ∧ k_ < ia ∧ k_ ≠ r ∧ k_ < r ∧ (¬ GXp101 k_ ∨ some k_ = (.slice Q Ha.length R : Value).ownBlock) ∧ GXp101P k_ ∧ ¬ GXp101u0 k_ ∧ k_ ≠ ha)) k_ ∧ ¬ GXp101 k_) ∧ some k_ ≠ (.slice Q q.length R : Value).ownBlock) := ⟨⟨hx_, fun g_ => (hx_.2.2.2.2.2.2.2.1).elim (fun h_ => h_ g_) (fun h_ => ho_ h_)⟩, fun e_ => ho_ (e_.trans Kd.own_len)⟩; exact ⟨⟨hz_.2, ⟨hz_.1.1.1, ⟨hz_.1.1.2.1, ⟨hz_.1.1.2.2.2.2.2.1, ⟨hz_.1.1.2.2.2.2.2.2.2.2.2.2, ⟨hz_.1.2, hz_.1.1.2.2.2.2.2.2.2.2.2.1⟩⟩⟩⟩⟩⟩, (by simp [Value.ownBlock])⟩) ?aF ?aO ?aB ?aS ?aL ?_
      (case aR => exact (Kd.S_mono (Pa.out) (fun k_ hk => ⟨hk.1.1.1.1.1, ⟨hk.1.1.1.1.2.1, ⟨hk.1.1.1.1.2.2.1, ⟨hk.1.1.1.1.2.2.2.1, ⟨hk.1.1.1.1.2.2.2.2.1, ⟨hk.1.1.1.1.2.2.2.2.2.1, ⟨hk.1.1.1.1.2.2.2.2.2.2, ⟨hk.1.1.1.2, ⟨hk.1.1.2, ⟨hk.1.2, hk.2⟩⟩⟩⟩⟩⟩⟩⟩⟩⟩)))
      (case aB => exact (hs_ F.out))
      (case aF => exact (fun k_ hk => ⟨Kd.fresh' (Kd.S_lt (sp_ d.out)) k_ hk, Kd.fresh' (Kd.S_lt (sp_ O.out)) k_ hk, Kd.freshB (g := m) (o := .cells #[.slice ca G.length da, .int .i64 T, .int .i64 U, .string V] 29 (0, 0)) (pb_ a.out) k_ hk, Kd.freshB (g := r) (o := .cells #[.int .i64 I, .slice L B.length M] 80 (0, 0)) (pb_ u.out) k_ hk, Kd.freshB (g := ha) (o := .cells #[.int .i64 I, .slice L B.length M] 80 (0, 0)) (pb_ Ca.out) k_ hk, (fun g_ => Nat.lt_irrefl _ (Nat.lt_of_lt_of_le (Nat.lt_trans (HGp101.out k_ g_) (blk_lt (pb_ u.out))) hk)), (fun g_ => Nat.lt_irrefl _ (Nat.lt_of_lt_of_le (Nat.lt_trans (HGp101u0.out k_ g_) (blk_lt (pb_ u.out))) hk))⟩))
      (case aO => exact ((Kd.S_nil _ _ _ _ _)))
      (case aS => exact (below_size (hs_ F.out)))
      (case aL => have := kd.out; omega)
      intro Ib Ye ho hb hg hat
      rw [← ld.out] at ho
      replace d := Aside0.mk (Kd.S_after (Kd.S_apart_nil (sp_ d.out)) hg hat)
      replace b := Aside0.mk (blk_grown (bq_ b.out) hg (by simp [Value.ownBlock]))
      replace a := Aside0.mk (blk_grown (bq_ a.out) hg (by simp [Value.ownBlock]))
      replace l := Aside0.mk (blk_grown (bq_ l.out) hg (by simp [Value.ownBlock]))
      replace c := Aside0.mk (blk_grown (bq_ c.out) hg (by simp [Value.ownBlock]))
      replace O := Aside0.mk (Kd.S_grown (sp_ O.out) hg (fun _ _ => by simp [Value.ownBlock]))
      replace u := Aside0.mk (blk_grown (bq_ u.out) hg (by simp [Value.ownBlock]))
      replace Ca := Aside0.mk (blk_grown (bq_ Ca.out) hg (by simp [Value.ownBlock]))
      replace F := Aside0.mk (hb)
      have Ba := Aside0.mk (ho)
      clear Pa
      clear ho hb hg hat
      refine ho_ hK (f3_ c.out (e2_ u.out)) (fun E => ?_)
      exact norm_ (by simp only [putAll, fr_]) (Ab (Ib, ha) _ ⟨E, (Kd.S_mono (sp_ O.out) (fun _ hk => ⟨hk.1.1.1, ⟨hk.1.2, ⟨hk.1.1.2.2, ⟨hk.2, hk.1.1.2.1⟩⟩⟩⟩)), (Kd.S_mono (sp_ Ba.out) (fun _ hk => ⟨hk.2.1, ⟨hk.1, ⟨hk.2.2.1, ⟨hk.2.2.2.1, ⟨hk.2.2.2.2.1, ⟨hk.2.2.2.2.2.1, hk.2.2.2.2.2.2⟩⟩⟩⟩⟩⟩)), (Kd.S_mono (sp_ d.out) (fun _ hk => ⟨hk.1.1.1.1, ⟨hk.2, ⟨hk.1.1.1.2.1, ⟨hk.1.1.1.2.2.2.2.2.1, ⟨hk.1.2, ⟨hk.1.1.1.2.2.1, ⟨hk.1.1.2, ⟨hk.1.1.1.2.2.2.1, ⟨hk.1.1.1.2.2.2.2.2.2, hk.1.1.1.2.2.2.2.1⟩⟩⟩⟩⟩⟩⟩⟩⟩)), (pb_ b.out), (pb_ a.out), (pb_ l.out), (pb_ c.out), (pb_ u.out), (pb_ Ca.out), Pb.out, Qb.out, cb.out, db.out, eb.out, fb.out, Ka.out, La.out, Ea.out, Fa.out, gb.out, ib.out, (hs_ F.out)⟩)
     rintro ⟨Ib, ha⟩ Ma ⟨Ud, Mc, Nc, Oc, Pc, Qc, Rc, Sc, Tc, Uc, Vc, Vb, Wb, Xb, Yb, Zb, ac, bc, cc, Jd, Ld, Md, Nd⟩
     replace O : Aside0 (Kd.S k29 29 Ma w.heap.size (fun k_ => k_ ≠ m ∧ GXp101u0 k_ ∧ k_ < r ∧ ¬ GXp101 k_ ∧ (some k_ = (.slice L B.length M : Value).ownBlock ∨ ia ≤ k_)) (.slice L B.length M) B) := ⟨Mc⟩
     have Ba : Aside0 (Kd.S k80 80 Ma w.heap.size (fun k_ => some k_ ≠ (.slice L B.length M : Value).ownBlock ∧ some k_ ≠ (.slice Q q.length R : Value).ownBlock ∧ k_ ≠ m ∧ k_ ≠ r ∧ k_ ≠ ha ∧ ¬ GXp101 k_ ∧ ¬ GXp101u0 k_) Ib Ja) := ⟨Nc⟩
     replace d : Aside0 (Kd.S (Kd.opt k80) 80 Ma w.heap.size (fun k_ => some k_ ≠ (.slice L B.length M : Value).ownBlock ∧ some k_ ≠ (Ib : Value).ownBlock ∧ k_ ≠ m ∧ k_ ≠ r ∧ k_ ≠ ha ∧ Z ≤ k_ ∧ GXp101 k_ ∧ k_ < z ∧ k_ < r ∧ k_ < ia) (.slice Q q.length R) (Kd.gap ((A : Int).toNat) q)) := ⟨Oc⟩
     replace b : Aside0 (Ma.heap[W]? = some (.cells #[.int .i64 aa, .int .i64 ba, .slice Qa D.length Da] 26 (0, 0))) := ⟨Pc⟩
     replace a : Aside0 (Ma.heap[m]? = some (.cells #[.slice ca G.length da, .int .i64 T, .int .i64 U, .string V] 29 (0, 0))) := ⟨Qc⟩
     replace l : Aside0 (Ma.heap[ja]? = some (.cells #[.int .i64 0, .int .i64 0, .slice none 0 0] 26 (0, 0))) := ⟨Rc⟩
     replace c : Aside0 (Ma.heap[z]? = some (.cells #[.int .i64 X, .int .i64 (wrap64 (Y + 1)), .slice Q q.length R] 26 (0, 0))) := ⟨Sc⟩
     replace u : Aside0 (Ma.heap[r]? = some (.cells #[.int .i64 I, .slice L B.length M] 80 (0, 0))) := ⟨Tc⟩
     have Ca : Aside0 (Ma.heap[ha]? = some (.cells #[.int .i64 I, .slice L B.length M] 80 (0, 0))) := ⟨Uc⟩
     have Pb := Ge_.mk Vc
     have Qb := Ge_.mk Vb
     have cb := Ne_.mk Wb
     have db := Ne_.mk Xb
     have eb := Ne_.mk Yb
     have fb := Ne_.mk Zb
     have Ka := Ne_.mk ac
     have La := Ne_.mk bc
     have Ea := Ne_.mk cc
     have Fa := Ne_.mk Jd
     have gb := Ne_.mk Ld
     have ib := Ne_.mk Md
     replace F : Aside0 (Below w.heap.size w Ma) := ⟨Nd⟩
     clear Pa Mc Nc Oc Pc Qc Rc Sc Tc Uc Vc Vb Wb Xb Yb Zb ac bc cc Jd Ld Md Nd
     have E : Ma.cell? ⟨z, 0, none⟩ = some (.int .i64 X) ∧ Ma.cell? ⟨z, 1, none⟩ = some (.int .i64 (wrap64 (Y + 1))) ∧ Ma.cell? ⟨z, 2, none⟩ = some (.slice Q q.length R) ∧ Ma.cell? ⟨r, 0, none⟩ = some (.int .i64 I) ∧ Ma.cell? ⟨r, 1, none⟩ = some (.slice L B.length M) := Ud
     obtain ⟨Cd, pd, Na⟩ := Kd.S_fp (Kd.S_types (Kd.S_types (Kd.S_apart' (Kd.S_apart' (O.out) (Kd.S_typed d.out) (by decide)) (Kd.S_typed Ba.out) (by decide)) u.out (by decide)) Ca.out (by decide))
     refine nm_ ?_
     refine o1_ 7 (b_ 12 3) ka (fun K hK => ?_)
     refine Kd.S_append_box_step k80 (w0 := w) w.heap.size (by rfl) (.tmp 70) (.tmp 72) 24 80 (.agg #[(.int .i64 0), (.slice none 0 0)]) 32 rfl Tryz.underlying24 info80 rfl (by decide) (by omega) Ib Ja (⟨I, B⟩ : S80) [.int .i64 I, .slice L B.length M] (fun k_ => some k_ ≠ (.slice Q q.length R : Value).ownBlock ∧ k_ ≠ m ∧ k_ ≠ r ∧ k_ ≠ ha ∧ ¬ GXp101 k_) (fun k_ => Cd k_) ha (pb_ Ca.out) rfl rfl ?aP (fun k_ hk_ => ⟨⟨(Na k_ hk_).1.1.1.1.2, ⟨(Na k_ hk_).1.1.1.1.1.1, ⟨(Na k_ hk_).1.1.2, ⟨(Na k_ hk_).1.2, (Na k_ hk_).1.1.1.1.1.2.2.2.1⟩⟩⟩⟩, (Na k_ hk_).1.1.1.2⟩) ?aF ?aO ?aB ?aS ?aL ?_
     (case aP => exact k80_mkM _ _ _ (⟨I, B⟩ : S80) (Kd.S_mono pd (fun _ h_ => h_)))
     (case aB => exact (hs_ F.out))
     (case aF => exact (fun k_ hk => ⟨Kd.fresh' (Kd.S_lt (sp_ d.out)) k_ hk, Kd.freshB (g := m) (o := .cells #[.slice ca G.length da, .int .i64 T, .int .i64 U, .string V] 29 (0, 0)) (pb_ a.out) k_ hk, Kd.freshB (g := r) (o := .cells #[.int .i64 I, .slice L B.length M] 80 (0, 0)) (pb_ u.out) k_ hk, Kd.freshB (g := ha) (o := .cells #[.int .i64 I, .slice L B.length M] 80 (0, 0)) (pb_ Ca.out) k_ hk, (fun g_ => Nat.lt_irrefl _ (Nat.lt_of_lt_of_le (Nat.lt_trans (HGp101.out k_ g_) (blk_lt (pb_ u.out))) hk))⟩))
     (case aO => exact (Kd.S_mono (sp_ Ba.out) (fun k_ hk => ⟨⟨hk.2.1, ⟨hk.2.2.1, ⟨hk.2.2.2.1, ⟨hk.2.2.2.2.1, hk.2.2.2.2.2.1⟩⟩⟩⟩, fun e_ => (fun ez_ => hk.2.2.2.2.2.2 (Na _ ez_).1.1.1.1.1.2.1) e_⟩)))
     (case aS => exact (below_size (hs_ F.out)))
     (case aL => have := de.out; omega)
     intro Od rj ho hb hg hat
     rw [← ee.out] at ho
     replace d := Aside0.mk (Kd.S_after (ok := (fun k_ => some k_ ≠ (.slice L B.length M : Value).ownBlock ∧ k_ ≠ m ∧ k_ ≠ r ∧ k_ ≠ ha ∧ Z ≤ k_ ∧ GXp101 k_ ∧ k_ < z ∧ k_ < r ∧ k_ < ia)) (Kd.S_mono (sp_ d.out) (fun _ hk => ⟨⟨hk.1, ⟨hk.2.2.1, ⟨hk.2.2.2.1, ⟨hk.2.2.2.2.1, ⟨hk.2.2.2.2.2.1, ⟨hk.2.2.2.2.2.2.1, ⟨hk.2.2.2.2.2.2.2.1, ⟨hk.2.2.2.2.2.2.2.2.1, hk.2.2.2.2.2.2.2.2.2⟩⟩⟩⟩⟩⟩⟩⟩, hk.2.1⟩)) hg hat)
     replace b := Aside0.mk (blk_grown (bq_ b.out) hg (Kd.S_ne Ba.out b.out (by decide)))
     replace a := Aside0.mk (blk_grown (bq_ a.out) hg (Kd.S_ne Ba.out a.out (by decide)))
     replace l := Aside0.mk (blk_grown (bq_ l.out) hg (Kd.S_ne Ba.out l.out (by decide)))
     replace c := Aside0.mk (blk_grown (bq_ c.out) hg (Kd.S_ne Ba.out c.out (by decide)))
     replace u := Aside0.mk (blk_grown (bq_ u.out) hg (Kd.S_away Ba.out (fun _ hk => hk.2.2.2.1)))
     replace Ca := Aside0.mk (blk_grown (bq_ Ca.out) hg (Kd.S_away Ba.out (fun _ hk => hk.2.2.2.2.1)))
     replace F := Aside0.mk (hb)
     have nb := Aside0.mk (ho)
     clear Ba O
     clear ho hb hg hat
     refine ho_ hK (f3_ c.out (e2_ u.out)) (fun E => ?_)
     refine o1_ 12 (b_ 13 2) ka (fun K hK => ?_)
     refine Kd.S_append_rest_step k80 (w0 := w) w.heap.size (by rfl) (.tmp 73) (.tmp 77) 24 80 (.agg #[(.int .i64 0), (.slice none 0 0)]) 32 rfl Tryz.underlying24 info80 rfl (by decide) (by omega) Od Ia q Q q.length R ((A : Int).toNat) cp101b (fun k_ => k_ ≠ m ∧ k_ ≠ r ∧ k_ ≠ ha) (fun k_ => some k_ ≠ (Od : Value).ownBlock ∧ k_ ≠ m ∧ k_ ≠ r ∧ k_ ≠ ha ∧ Z ≤ k_ ∧ GXp101 k_ ∧ k_ < z ∧ k_ < r ∧ k_ < ia) rfl KLp101.out (by rw [show (if R = (A : Int).toNat then Q else (Q : Option Addr).map (·.add ((A : Int).toNat * (k80).sz))) = Ap101b from KAp101.out.symm, ← Ob.out]; rfl) ?aR (fun k_ hk ho_ => ⟨⟨hk.2.1, ⟨hk.2.2.1, hk.2.2.2.1⟩⟩, hk.1⟩) ?aF ?aO ?aB ?aS ?aL ?_
     (case aR => exact (Kd.S_mono (d.out) (fun k_ hk => ⟨hk.2, ⟨hk.1.2.1, ⟨hk.1.2.2.1, ⟨hk.1.2.2.2.1, ⟨hk.1.2.2.2.2.1, ⟨hk.1.2.2.2.2.2.1, ⟨hk.1.2.2.2.2.2.2.1, ⟨hk.1.2.2.2.2.2.2.2.1, hk.1.2.2.2.2.2.2.2.2⟩⟩⟩⟩⟩⟩⟩⟩)))
     (case aB => exact (hs_ F.out))
     (case aF => exact (fun k_ hk => ⟨Kd.freshB (g := m) (o := .cells #[.slice ca G.length da, .int .i64 T, .int .i64 U, .string V] 29 (0, 0)) (pb_ a.out) k_ hk, Kd.freshB (g := r) (o := .cells #[.int .i64 I, .slice L B.length M] 80 (0, 0)) (pb_ u.out) k_ hk, Kd.freshB (g := ha) (o := .cells #[.int .i64 I, .slice L B.length M] 80 (0, 0)) (pb_ Ca.out) k_ hk⟩))
     (case aO => exact (Kd.S_mono (sp_ nb.out) (fun k_ hk => ⟨⟨hk.2.1, ⟨hk.2.2.1, hk.2.2.2.1⟩⟩, fun e_ => hk.2.2.2.2 e_.1.2.2.2.2.2.1⟩)))
     (case aS => exact (below_size (hs_ F.out)))
     (case aL => have := fe.out; rw [Ob.out] at this; omega)
     intro sj Ze ho hb hg hat
     rw [← Ob.out] at ho
     rw [← ge.out] at ho
     replace b := Aside0.mk (blk_grown (bq_ b.out) hg (Kd.S_ne nb.out b.out (by decide)))
     replace a := Aside0.mk (blk_grown (bq_ a.out) hg (Kd.S_ne nb.out a.out (by decide)))
     replace l := Aside0.mk (blk_grown (bq_ l.out) hg (Kd.S_ne nb.out l.out (by decide)))
     replace c := Aside0.mk (blk_grown (bq_ c.out) hg (Kd.S_ne nb.out c.out (by decide)))
     replace u := Aside0.mk (blk_grown (bq_ u.out) hg (Kd.S_away nb.out (fun _ hk => hk.2.2.1)))
     replace Ca := Aside0.mk (blk_grown (bq_ Ca.out) hg (Kd.S_away nb.out (fun _ hk => hk.2.2.2.1)))
     replace F := Aside0.mk (hb)
     have qd := Aside0.mk (ho)
     clear nb d
     clear ho hb hg hat
     obtain ⟨rd, sd, td⟩ := Kd.S_slice qd.out
     (first | subst td | (obtain ⟨rfl, rfl⟩ := si_ td))
     refine ho_ hK (f3_ c.out (e2_ u.out)) (fun E => ?_)
     refine p_ ka ?_
     refine l1_ 14 (b_ 15 0) ka (fun K hK => ?_)
     have cj : Ze.cell? ⟨z, 2, none⟩ = some (.slice Q q.length R) := bx_ c.out 2
     have jf := blk_frozen c.out 2
     have ie := la.out
     have je := na.out
     have ke := pa.out
     have le := Gb.out
     have me := Fa.out
     have ne := ma.out
     have oe := oa.out
     have pe := qa.out
     have qe := Fb.out
     have re := Ea.out
     refine skip_ (w1 := ?_) (by rfl) rfl ?_ ?_
     rotate_left
     ·
      go_simp
      rfl
     refine hK.out _ _ ?_
     clear hK K
     refine done_ (done_of ka.out (by kernel_rfl)) ?_
     have kf := ma.out
     have lf := la.out
     have mf := qa.out
     have nf := pa.out
     have pf := Ea.out
     have qf := Fa.out
     obtain ⟨rf, sf, tf, uf, vf, wf⟩ := bc3_ c.out
     have xf := Ya.out
     have yf := Xa.out
     have zf := Ka.out
     have Af := La.out
     obtain ⟨Bf, Cf, Df, Ef, Ff, Gf⟩ := bc3_ l.out
     try go_wp2
     refine bodyPost_ret (results_ct rfl _ _ ja 26 #[.int .i64 X, .int .i64 (wrap64 (Y + 1)), .slice rd md.length sd] (0, 0) _ rfl (bp_ l.out) Tryz.underlying26 rfl (by kernel_rfl)) rfl ?_
     exact ⟨_, rr_, Kd.S_mono (sf_ ja (Kd.S_far (p := ⟨z, 2, none⟩) (Kd.S_types (Kd.S_types qd.out c.out (by decide)) l.out (by decide)) (fun _ hk => hk.1.2) (.slice rd md.length sd)) (fun _ hk => hk.2)) (fun _ hk => trivial), hs_ F.out⟩
def impl_PartOf.f (a0 : Int) (a1 : Int) : Option (Int) := if a1 < 1 then (some 0) else (if a0 < 0 then (some 0) else (if a1 = 0 then (none) else (some (Int.tmod a0 a1))))
theorem impl_PartOf.calls (b : Int) (a : Int) (r : Int) (w : World) (h : impl_PartOf.f b a = some r) :
  Calls Tryz.prog 74 #[.int .i64 b, .int .i64 a] w fun e w' => e = .returned (.int .i64 r) ∧ Drawn0 w w' := by
 have H : (if a < 1 then (some 0) else (if b < 0 then (some 0) else (if a = 0 then (none) else (some (Int.tmod b a))))) = some r := h
 clear h
 replace H := ie_ H; rcases H with ⟨c, H⟩ | ⟨c, H⟩
 ·
  have d := decide_eq_true c
  clear c
  obtain rfl := Option.some.inj H
  go_enter Tryz.func74, Tryz.ntmps74
  go_wp2
  go_ret
  exact ⟨by first | rfl | (simp; done) | (simp [*]; done), by repeat (first | exact Drawn0.refl _ | apply Drawn0.step)⟩
 have d : decide (a < 1) = false := decide_eq_false c
 clear c
 replace H := ie_ H; rcases H with ⟨g, H⟩ | ⟨g, H⟩
 ·
  have i := decide_eq_true g
  clear g
  obtain rfl := Option.some.inj H
  go_enter Tryz.func74, Tryz.ntmps74
  go_wp2
  go_ret
  exact ⟨by first | rfl | (simp; done) | (simp [*]; done), by repeat (first | exact Drawn0.refl _ | apply Drawn0.step)⟩
 have i : decide (b < 0) = false := decide_eq_false g
 clear g
 replace H := io_ H; obtain ⟨j, H⟩ := H
 have k : (a == 0) = false := beq_eq_false_iff_ne.mpr j
 have l : (a != 0) = true := bne_iff_ne.mpr j
 obtain rfl := Option.some.inj H
 go_enter Tryz.func74, Tryz.ntmps74
 go_wp2
 go_ret
 exact ⟨by first | rfl | (simp; done) | (simp [*]; done), by repeat (first | exact Drawn0.refl _ | apply Drawn0.step)⟩
def impl_HomeOf.f (k : Nat) (l0 : List (S26)) (l1 : List (S99)) : Option (Int) := (impl_Finger.f k l1).bind fun t1380 => ((impl_PartOf.f t1380 (l0.length : Int)).bind fun t1381 => (some t1381))
theorem impl_HomeOf.calls (k : Nat) (s : Option Addr) (t : Nat) (c : List (S26)) (m : Option Addr) (n : Nat) (d : List (S99)) (r : Int) (w : World) (g : Kd.C k26 w s c.length c) (i : c.length ≤ t) (j : Kd.C k99 w m d.length d) (l : d.length ≤ n) (h : impl_HomeOf.f k c d = some r) :
  Calls Tryz.prog 47 #[.slice s c.length t, .slice m d.length n] w fun e w' => e = .returned (.int .i64 r) ∧ Below w.heap.size w w' := by
 have u := Aside0.mk g
 have v := Aside0.mk i
 clear g i
 have o := Aside0.mk j
 have p := Aside0.mk l
 clear j l
 have q := Aside0.mk (Below.refl w.heap.size w)
 have H : ((impl_Finger.f k d).bind fun a => ((impl_PartOf.f a (c.length : Int)).bind fun b => (some b))) = some r := h
 clear h
 replace H := bi_ H; obtain ⟨a, x, H⟩ := H
 replace H := bi_ H; obtain ⟨b, y, H⟩ := H
 obtain rfl := Option.some.inj H
 go_enter Tryz.func47, Tryz.ntmps47
 go_wp2_with (first | ((with_reducible refine gate_callee (f := 55) rfl ?_); refine gl_ (some 6) Tryz.func55 #[.slice m d.length n] ?_; (with_reducible refine (impl_Finger.calls k _ _ d a _ ?side1 ?side2 x.out).mono ?_); (case side1 => exact cp_ (o.out)); (case side2 => exact p.out); rintro e z ⟨rfl, hb⟩; refine ⟨_, rfl, ?_⟩; replace q := st_ q hb; (try clear hb); (try clear hk)) | ((with_reducible refine gate_callee (f := 74) rfl ?_); refine gl_ (some 9) Tryz.func74 #[.int .i64 a, .int .i64 (c.length : Int)] ?_; (with_reducible refine (impl_PartOf.calls a (c.length : Int) b _ y.out).mono ?_); rintro e w' ⟨rfl, ⟨A, rfl⟩⟩; refine ⟨_, rfl, ?_⟩))
 go_ret
 exact an_ (hs_ q.out)
def impl_copyStore.l0 : Nat → List (S26) → List (S26) → Int → Int → Option ((List (S26)))
 | 0, _, _, _, _ => none
 | k + 1, x3, x6, x7, x8 => if x8 < x7 then (if 0 ≤ x8 then (if x8 < (x6.length : Int) then ((impl_copyPart.f k ((rd_T26 x6 x8).f0) ((rd_T26 x6 x8).f1) ((rd_T26 x6 x8).f2)).bind fun bt1384 => (if x3.length < 3518437208883 then (impl_copyStore.l0 k (x3 ++ [(⟨bt1384.1, bt1384.2.1, bt1384.2.2⟩ : S26)]) x6 x7 (wrap64 (x8 + 1))) else (none))) else (none)) else (none)) else (some x3)
def impl_copyStore.f (k : Nat) (l0 : List (S26)) : Option ((List (S26))) := impl_copyStore.l0 k ([] : List (S26)) l0 (l0.length : Int) 0
theorem impl_copyStore.calls (k : Nat) (A0 : Option Addr) (c0 : Nat) (l0 : List (S26)) (r : List (S26)) (w : World) (R : Kd.C k26 w A0 l0.length l0) (T : l0.length ≤ c0) (h : impl_copyStore.f k l0 = some r) :
  Calls Tryz.prog 84 #[.slice A0 l0.length c0] w fun e w' => ∃ v0_ : Value, e = .returned (v0_) ∧ Kd.S k26 26 w' w.heap.size (fun _ => True) v0_ r ∧ Below w.heap.size w w' := by
 have hu26 := Tryz.underlying26
 have ea := Aside0.mk R
 have ta := Aside0.mk T
 clear R T
 have A := Aside0.mk (Below.refl w.heap.size w)
 have H : (impl_copyStore.l0 k ([] : List (S26)) l0 (l0.length : Int) 0) = some r := h
 clear h
 have H' := Aside0.mk H
 clear H
 go_enter Tryz.func84, Tryz.ntmps84
 go_wp2
 go_loopg [3, 8] k (fun kq v3 v8 w' => ∃ (z : List (S26)) (a : Int), v8 = .int .i64 a ∧ Aside0 (impl_copyStore.l0 kq z l0 (l0.length : Int) a = some r) ∧ Aside0 (kq ≤ k) ∧ Aside0 (Kd.S k26 26 w' w.heap.size (fun _ => True) v3 z) ∧ Aside0 (Below w.heap.size w w'))
 case atStart => exact ⟨(([] : List (S26))), (0), rs_, H', ⟨Nat.le_refl _⟩, ⟨ni_⟩, ⟨hs_ A.out⟩⟩
 case round =>
  clear H'
  obtain ⟨z, a, rfl, HA, U, i, A⟩ := hrel
  cases gk with
  | zero => exact absurd HA.out (by simp [impl_copyStore.l0])
  | succ k1 =>
   have H := HA.out
   clear HA
   simp only [impl_copyStore.l0] at H
   replace H := ie_ H; rcases H with ⟨V, H⟩ | ⟨V, H⟩
   ·
    have W := decide_eq_true V
    clear V
    replace H := id_ H; obtain ⟨la, H⟩ := H
    replace H := id_ H; obtain ⟨ma, H⟩ := H
    replace H := bi_ H; obtain ⟨⟨l, m, n⟩, A5, H⟩ := H; (try dsimp only at H)
    replace H := im_ H; obtain ⟨X, H⟩ := H
    obtain ⟨I, hy_⟩ : ∃ y_ : List (S26), y_ = (z ++ [(⟨l, m, n⟩ : S26)]) := ⟨_, rfl⟩
    replace H : (impl_copyStore.l0 k1 I l0 (l0.length : Int) (wrap64 (a + 1))) = some r := hm_
    have J := Aside0.mk hy_; clear hy_
    have H' := Aside0.mk H
    clear H
    obtain ⟨B, D⟩ : 0 ≤ (a : Int) ∧ a < (l0.length : Int) := pq_
    obtain ⟨ca, p, q, O, d, j, s, t, u⟩ := at_T26 ea.out a B D
    cases O
    replace d := c2_ A d j; clear j; obtain ⟨d, j⟩ := d
    replace s := cl_ A.out s
    have F := Aside0.mk u
    have G := Aside0.mk t
    clear u t
    replace B := eq_true B; replace D := eq_true D
    go_wp2_with (first | ((with_reducible refine gd_ 5 rfl ?_); refine bv_ 5 #[.int .i64 0, .int .i64 0, .slice none 0 0] 26 ?_; intro v hg w7 N hb; replace i := se_ i hg hb; have c := Aside0.mk (N); have K := gq_ hg A; replace A := st_ A hb; have da := Ge_.mk K.out; clear hb N hg; obtain ⟨na, oa, pa, qa, ra, sa⟩ := bc3_ c.out) | ((with_reducible refine gate_callee (f := 54) rfl ?_); refine gl_ (some 14) Tryz.func54 #[.agg #[.int .i64 ((rd_T26 l0 a).f0), .int .i64 ((rd_T26 l0 a).f1), .slice p ((rd_T26 l0 a).f2).length q]] ?_; (with_reducible refine (impl_copyPart.calls k1 ((rd_T26 l0 a).f0) ((rd_T26 l0 a).f1) _ _ ((rd_T26 l0 a).f2) l m n _ ?side1 ?side2 A5.out).mono ?_); (case side1 => exact Kd.C_below F.out (hs_ A.out)); (case side2 => exact G.out); rintro e w9 ⟨ha, rfl, P, hb⟩; refine ⟨_, rfl, ?_⟩; obtain ⟨Y, E⟩ := Kd.S_name P; replace i := su_ E (sf_ v i.out (fun _ hk => hk.2)) hb; have x := sg_ E P A; replace c := by_ c #[.int .i64 ((rd_T26 l0 a).f0), .int .i64 ((rd_T26 l0 a).f1), .slice p ((rd_T26 l0 a).f2).length q] hb; replace A := st_ A hb; (try clear hb); (try clear hk); (try clear P); obtain ⟨Z, aa, ba⟩ := Kd.S_slice x.out; subst ba; obtain ⟨Q, L, y⟩ := Kd.S_fp (Kd.S_types (Kd.S_apart' (x.out) (Kd.S_typed i.out) (by decide)) c.out (by decide))) | ((with_reducible refine gate_builtin (b := .append) (xs := #[.tmp 12, .tmp 15]) rfl ?_); at_builtin; refine Kd.S_append k26 (w0 := w) w.heap.size rfl (.tmp 12) (.tmp 15) 54 26 (.agg #[(.int .i64 0), (.int .i64 0), (.slice none 0 0)]) 40 rfl Tryz.underlying54 info26 rfl (by decide) (by omega) u3 z (⟨l, m, n⟩ : S26) [.int .i64 l, .int .i64 m, .slice Z n.length aa] (fun k_ => k_ ≠ v) (fun k_ => Q k_) rfl rfl ?aP (fun k_ hk_ => ⟨(y k_ hk_).1.2, (y k_ hk_).1.1.2⟩) ?aF ?aO ?aB ?aS ?aL ?_; (case aP => exact k26_mkM _ _ _ (⟨l, m, n⟩ : S26) (Kd.S_mono L (fun _ h_ => h_))); (case aB => exact (hs_ A.out)); (case aF => exact (fun k_ hk => Kd.freshB (g := v) (o := .cells #[.int .i64 ((rd_T26 l0 a).f0), .int .i64 ((rd_T26 l0 a).f1), .slice p ((rd_T26 l0 a).f2).length q] 26 (0, 0)) (pb_ c.out) k_ hk)); (case aO => exact (Kd.S_mono (sp_ i.out) (fun k_ hk => ⟨hk.1.2, fun e_ => (fun ez_ => Nat.lt_irrefl _ (Nat.lt_of_lt_of_le hk.2 (y _ ez_).1.1.1.2)) e_⟩))); (case aS => exact (below_size (hs_ A.out))); (case aL => have := X.out; omega); intro ia xa ho hb hg hat; rw [← J.out] at ho; replace c := Aside0.mk (blk_grown (bq_ c.out) hg (Kd.S_away i.out (fun _ hk => hk.1.2))); replace A := Aside0.mk (hb); have M := Aside0.mk (ho); clear i x; clear ho hb hg hat))
    go_roundg k1
    case measure => have := U.out; omega
    case rel => exact ⟨(I), (wrap64 (a + 1)), rs_, H', ⟨by have := U.out; omega⟩, ⟨Kd.S_mono (sp_ M.out) (fun _ hk => trivial)⟩, ⟨hs_ A.out⟩⟩
   have W : decide (a < (l0.length : Int)) = false := decide_eq_false V
   clear V
   obtain rfl := Option.some.inj H
   go_wp2
   go_ret
   exact ⟨_, rr_, sp_ i.out, hs_ A.out⟩
def impl_PutAlarm.f (k : Nat) (l0 : List (S26)) (l1_0 : List (S99)) (a1_1 : Int) (a1_2 : Int) (a1_3 : ByteArray) : Option ((List (S26)) × Bool) := (impl_copyStore.f k l0).bind fun t1393 => (if (l0.length : Int) = 0 then (some (t1393, false)) else ((impl_HomeOf.f k l0 l1_0).bind fun t1396 => (if 0 ≤ t1396 then (if t1396 < (l0.length : Int) then ((impl_PutIn.f k ((rd_T26 l0 t1396).f0) ((rd_T26 l0 t1396).f1) ((rd_T26 l0 t1396).f2) l1_0 a1_1 a1_2 a1_3).bind fun bt1398 => (if t1396 < (t1393.length : Int) then (some ((t1393.set (t1396 : Int).toNat (⟨bt1398.1, bt1398.2.1, bt1398.2.2.1⟩ : S26)), bt1398.2.2.2)) else (none))) else (none)) else (none))))
def impl_PutAlarm.T5 : Bool × List (List Nat × List Nat) := (true, [([], []), ([], []), ([0, 1], [0, 1]), ([2], [2]), ([], []), ([3, 4], [3, 4]), ([5], [5]), ([6], [6]), ([6], [6]), ([], []), ([9, 7, 5, 0, 1, 2, 3, 4, 5, 6, 7, 9], [7, 9]), ([8, 10, 0, 1, 2, 3, 4, 5, 6, 7, 8, 9, 10], [8])])
def impl_PutAlarm.B5 : List Nat := [0, 0, 3, 7, 0, 31, 63, 127, 127, 0, 767, 2047]
theorem impl_PutAlarm.tab5 : rtab .any (opsOf Tryz.f29 5) = impl_PutAlarm.T5 := by kernel_rfl
theorem impl_PutAlarm.bits5 : waitsOk impl_PutAlarm.T5.2 impl_PutAlarm.B5 = true := by kernel_rfl
theorem impl_PutAlarm.calls (k : Nat) (A0 : Option Addr) (c0 : Nat) (O : List (S26)) (P : Option Addr) (Q : Nat) (B : List (S99)) (L : Int) (M : Int) (N : ByteArray) (r1 : List (S26)) (r2 : Bool) (w : World) (Wa : Kd.C k26 w A0 O.length O) (Xa : O.length ≤ c0) (wa : Kd.C k99 w P B.length B) (xa : B.length ≤ Q) (h : impl_PutAlarm.f k O B L M N = some (r1, r2)) :
  Calls Tryz.prog 29 #[.slice A0 O.length c0, .agg #[.slice P B.length Q, .int .i64 L, .int .i64 M, .string N]] w fun e w' => ∃ v0_ : Value, e = .returned (.tuple #[v0_, .bool r2]) ∧ Kd.S k26 26 w' w.heap.size (fun _ => True) v0_ r1 ∧ Below w.heap.size w w' := by
 have hu29 := Tryz.underlying29
 have hu26 := Tryz.underlying26
 have Ba := Aside0.mk Wa
 have Na := Aside0.mk Xa
 clear Wa Xa
 have sa := Aside0.mk wa
 have ta := Aside0.mk xa
 clear wa xa
 have A := Aside0.mk (Below.refl w.heap.size w)
 have H : ((impl_copyStore.f k O).bind fun x => (if (O.length : Int) = 0 then (some (x, false)) else ((impl_HomeOf.f k O B).bind fun b => (if 0 ≤ b then (if b < (O.length : Int) then ((impl_PutIn.f k ((rd_T26 O b).f0) ((rd_T26 O b).f1) ((rd_T26 O b).f2) B L M N).bind fun bt1398 => (if b < (x.length : Int) then (some ((x.set (b : Int).toNat (⟨bt1398.1, bt1398.2.1, bt1398.2.2.1⟩ : S26)), bt1398.2.2.2)) else (none))) else (none)) else (none))))) = some (r1, r2) := h
 clear h
 replace H := bi_ H; obtain ⟨x, A3, H⟩ := H
 replace H := ie_ H; rcases H with ⟨c4, H⟩ | ⟨c4, H⟩
 ·
  have Ya : ((O.length : Int) == 0) = true := beq_iff_eq.mpr c4
  have Za : ((O.length : Int) != 0) = false := bne_eq_false_iff_eq.mpr c4
  clear c4
  simp only [Option.some.injEq, Prod.mk.injEq] at H
  obtain ⟨rfl, rfl⟩ := H
  go_enter Tryz.func29, Tryz.ntmps29
  go_wp2_with (first | ((with_reducible refine gd_ 3 rfl ?_); refine bv_ 3 #[.slice P B.length Q, .int .i64 L, .int .i64 M, .string N] 29 ?_; intro d hg w5 T hb; have a := Aside0.mk (T); have la := gq_ hg A; replace A := st_ A hb; have Ca := Ge_.mk la.out; clear hb T hg) | ((with_reducible refine gate_callee (f := 84) rfl ?_); refine gl_ (some 11) Tryz.func84 #[.slice A0 O.length c0] ?_; (with_reducible refine (impl_copyStore.calls k _ _ O x _ ?side1 ?side2 A3.out).mono ?_); (case side1 => exact cp_ ((Kd.C_below Ba.out A.out))); (case side2 => exact Na.out); rintro e w6 ⟨ma, rfl, Y, hb⟩; refine ⟨_, rfl, ?_⟩; obtain ⟨Z, na⟩ := Kd.S_name Y; have c := Aside0.mk (Kd.S_lower (Kd.S_newB (Kd.S_gez na Y) (pb_ a.out)) (below_size (hs_ A.out))); replace a := bk2_ a hb; replace A := st_ A hb; (try clear hb); (try clear hk); (try clear Y)))
  go_ret2
  exact ⟨_, rr_, Kd.S_mono (sp_ c.out) (fun _ hk => trivial), hs_ A.out⟩
 have Ya : ((O.length : Int) == 0) = false := beq_eq_false_iff_ne.mpr c4
 have Za : ((O.length : Int) != 0) = true := bne_iff_ne.mpr c4
 have ec : ¬ (O = []) := fun h_ => c4 (by rw [h_]; rfl)
 replace H := bi_ H; obtain ⟨b, A7, H⟩ := H
 replace H := id_ H; obtain ⟨fc, H⟩ := H
 replace H := id_ H; obtain ⟨gc, H⟩ := H
 replace H := bi_ H; obtain ⟨⟨G, I, E, ca⟩, ab, H⟩ := H; (try dsimp only at H)
 replace H := id_ H; obtain ⟨Eb, H⟩ := H
 obtain ⟨ya, hy_⟩ : ∃ y_ : List (S26), y_ = (x.set (b : Int).toNat (⟨G, I, E⟩ : S26)) := ⟨_, rfl⟩
 replace H : (some (ya, ca)) = some (r1, r2) := hm_
 have Da := Aside0.mk hy_; clear hy_
 simp only [Option.some.injEq, Prod.mk.injEq] at H
 obtain ⟨rfl, rfl⟩ := H
 go_enter Tryz.func29, Tryz.ntmps29
 try go_wp2_with (first | ((with_reducible refine gd_ 3 rfl ?_); refine bv_ 3 #[.slice P B.length Q, .int .i64 L, .int .i64 M, .string N] 29 ?_; intro d hg nc T hb; have a := Aside0.mk (T); have la := gq_ hg A; replace A := st_ A hb; have Ca := Ge_.mk la.out; clear hb T hg) | ((with_reducible refine gate_callee (f := 84) rfl ?_); refine gl_ (some 11) Tryz.func84 #[.slice A0 O.length c0] ?_; (with_reducible refine (impl_copyStore.calls k _ _ O x _ ?side1 ?side2 A3.out).mono ?_); (case side1 => exact cp_ ((Kd.C_below Ba.out A.out))); (case side2 => exact Na.out); rintro e oc ⟨ma, rfl, Y, hb⟩; refine ⟨_, rfl, ?_⟩; obtain ⟨Z, na⟩ := Kd.S_name Y; have c := Aside0.mk (Kd.S_lower (Kd.S_newB (Kd.S_gez na Y) (pb_ a.out)) (below_size (hs_ A.out))); replace a := bk2_ a hb; replace A := st_ A hb; (try clear hb); (try clear hk); (try clear Y); obtain ⟨Fb, Gb, Hb, Ib, Jb, Kb, Lb, Mb⟩ := bc4_ a.out) | ((with_reducible refine gate_callee (f := 47) rfl ?_); refine gl_ (some 19) Tryz.func47 #[.slice A0 O.length c0, .slice P B.length Q] ?_; (with_reducible refine (impl_HomeOf.calls k _ _ O _ _ B b _ ?side1 ?side2 ?side3 ?side4 A7.out).mono ?_); (case side1 => exact cp_ ((Kd.C_below Ba.out A.out))); (case side2 => exact Na.out); (case side3 => exact cp_ ((Kd.C_below sa.out A.out))); (case side4 => exact ta.out); rintro e Nb ⟨rfl, hb⟩; refine ⟨_, rfl, ?_⟩; replace c := sb_ c hb; replace a := bk2_ a hb; replace A := st_ A hb; (try clear hb); (try clear hk)))
 replace c := Aside0.mk (Kd.S_drew c.out)
 replace a := Aside0.mk (blk_drew a.out)
 replace A := Aside0.mk (bd_ A.out)
 obtain ⟨ua, va⟩ : 0 ≤ (b : Int) ∧ b < (O.length : Int) := pq_
 obtain ⟨u, U, V, Pa, J, R, W, ia, ja⟩ := at_T26 Ba.out b ua va
 have l := W
 have m := R
 have o := J
 cases Pa
 replace J := c2_ A J R; clear R; obtain ⟨J, R⟩ := J
 replace W := cl_ A.out W
 have da := Aside0.mk ja
 have ka := Aside0.mk ia
 clear ja ia
 replace ua := eq_true ua; replace va := eq_true va
 refine start_ (n := 12) (S := fun w' => w'.cell? ⟨d, 0, none⟩ = some (.slice P B.length Q) ∧ w'.cell? ⟨d, 1, none⟩ = some (.int .i64 L) ∧ w'.cell? ⟨d, 2, none⟩ = some (.int .i64 M) ∧ w'.cell? ⟨d, 3, none⟩ = some (.string N) ∧ w'.cell? (u.add ((b).toNat * 3)) = some (.int .i64 ((rd_T26 O b).f0)) ∧ w'.cell? ⟨(u.add ((b).toNat * 3)).block, (u.add ((b).toNat * 3)).off + 1, none⟩ = some (.int .i64 ((rd_T26 O b).f1)) ∧ w'.cell? ⟨(u.add ((b).toNat * 3)).block, (u.add ((b).toNat * 3)).off + 2, none⟩ = some (.slice U ((rd_T26 O b).f2).length V)) (ds := []) (b_ 0 12) (by kernel_rfl) rfl rfl ⟨bx_ a.out 0, bx_ a.out 1, bx_ a.out 2, bx_ a.out 3, ((A.out.cell (World.block_lt_of_cell? w _ o)).trans o), ((A.out.cell (World.block_lt_of_cell? w _ m)).trans m), ((A.out.cell (World.block_lt_of_cell? w _ l)).trans l)⟩ (fun y => ?_); refine with_tabW impl_PutAlarm.tab5 impl_PutAlarm.bits5 (fun ea Ob => ?_)
 generalize Nb.drew = pc at c a A da J R W y ⊢
 iterate 3 refine p_ ea ?_
 iterate 2 refine t0_ ea Ob y ?_
 refine join_ (σ := Value × Nat × Nat) 2 (b_ 10 2) (fun s_ => [(26, .tuple #[.agg #[.int .i64 G, .int .i64 I, s_.1], .bool ca]), (8, .pointer (some ⟨s_.2.2, 0, none⟩)), (20, .tuple #[.agg #[.int .i64 G, .int .i64 I, s_.1], .bool ca]), (27, .agg #[.int .i64 G, .int .i64 I, s_.1]), (28, .bool ca)]) (fun s_ w' => (w'.cell? ⟨d, 0, none⟩ = some (.slice P B.length Q) ∧ w'.cell? ⟨d, 1, none⟩ = some (.int .i64 L) ∧ w'.cell? ⟨d, 2, none⟩ = some (.int .i64 M) ∧ w'.cell? ⟨d, 3, none⟩ = some (.string N) ∧ w'.cell? (u.add ((b).toNat * 3)) = some (.int .i64 ((rd_T26 O b).f0)) ∧ w'.cell? ⟨(u.add ((b).toNat * 3)).block, (u.add ((b).toNat * 3)).off + 1, none⟩ = some (.int .i64 ((rd_T26 O b).f1)) ∧ w'.cell? ⟨(u.add ((b).toNat * 3)).block, (u.add ((b).toNat * 3)).off + 2, none⟩ = some (.slice U ((rd_T26 O b).f2).length V)) ∧ (Kd.S k26 26 w' w.heap.size (fun k_ => k_ ≠ d ∧ k_ ≠ s_.2.2 ∧ Z ≤ k_ ∧ k_ < s_.2.1) ma x) ∧ (Kd.S k80 80 w' w.heap.size (fun k_ => k_ ≠ d ∧ s_.2.1 ≤ k_) s_.1 E) ∧ (w'.heap[d]? = some (.cells #[.slice P B.length Q, .int .i64 L, .int .i64 M, .string N] 29 (0, 0))) ∧ (w'.heap[s_.2.2]? = some (.cells #[.int .i64 0, .int .i64 0, .slice none 0 0] 26 (0, 0))) ∧ (w.heap.size ≤ s_.2.2) ∧ (w.heap.size ≤ s_.2.2) ∧ (d ≠ s_.2.2) ∧ (s_.2.2 ≠ d) ∧ (Below w.heap.size w w')) ?_ ?_
 rotate_left
 ·
  intro za
  refine two_ (i := 5) (j := 9) (Ni := some 26) (Nj := some 8) (b_ 6 6) (m_ 12 543) rfl rfl rfl rfl (two_of ea.out (by kernel_rfl)) (by decide) (by decide) (fun K hK => ?_) (fun K hK => ?_)
  ·
   skip
   refine gs_ Tryz.func8 #[.agg #[.int .i64 ((rd_T26 O b).f0), .int .i64 ((rd_T26 O b).f1), .slice U ((rd_T26 O b).f2).length V], .agg #[.slice P B.length Q, .int .i64 L, .int .i64 M, .string N]] ?_
   with_reducible refine (impl_PutIn.calls k ((rd_T26 O b).f0) ((rd_T26 O b).f1) _ _ ((rd_T26 O b).f2) _ _ B L M N G I E ca _ ?side1 ?side2 ?side3 ?side4 ab.out).mono ?_
   (case side1 => exact cp_ ((Kd.C_below da.out A.out)))
   (case side2 => exact ka.out)
   (case side3 => exact cp_ ((Kd.C_below sa.out A.out)))
   (case side4 => exact ta.out)
   rintro e Pb ⟨ha, rfl, Y, hb⟩
   refine ⟨_, rfl, ?_⟩
   obtain ⟨F, aa⟩ := Kd.S_name Y
   replace c := su_ aa (sp_ c.out) hb
   have D := Aside0.mk (Kd.S_lower (Kd.S_newB (Kd.S_gez aa Y) (pb_ a.out)) (below_size (hs_ A.out)))
   replace a := bk2_ a hb
   replace A := st_ A hb
   (try clear hb)
   (try clear hk)
   (try clear Y)
   refine ho_ hK ⟨bx_ a.out 0, bx_ a.out 1, bx_ a.out 2, bx_ a.out 3, ((A.out.cell (World.block_lt_of_cell? w _ o)).trans o), ((A.out.cell (World.block_lt_of_cell? w _ m)).trans m), ((A.out.cell (World.block_lt_of_cell? w _ l)).trans l)⟩ (fun y => ?_)
   iterate 3 refine p_ ea ?_
   refine o1_ 9 (b_ 10 2) ea (fun K hK => ?_)
   refine bs1_ 8 #[.int .i64 0, .int .i64 0, .slice none 0 0] 26 ?_
   intro q hg Qb T hb
   replace c := se_ c hg hb
   replace D := sb_ D hb
   have g := Aside0.mk (T)
   have z := gq_ hg A
   have fa := gq_ hg A
   replace A := st_ A hb
   have r := nk_ a hg
   have s := Ne_.mk (ng_ a.out hg)
   replace a := bk2_ a hb
   clear hb T hg
   refine ho_ hK ⟨bx_ a.out 0, bx_ a.out 1, bx_ a.out 2, bx_ a.out 3, ((A.out.cell (World.block_lt_of_cell? w _ o)).trans o), ((A.out.cell (World.block_lt_of_cell? w _ m)).trans m), ((A.out.cell (World.block_lt_of_cell? w _ l)).trans l)⟩ (fun y => ?_)
   exact norm_ (by simp only [putAll, fr_]) (za (ha, F, q) _ ⟨y, (Kd.S_mono (sp_ c.out) (fun _ hk => ⟨hk.1.1.2, ⟨hk.2, ⟨hk.1.1.1.2, hk.1.2⟩⟩⟩)), (Kd.S_mono (sp_ D.out) (fun _ hk => ⟨hk.2, hk.1.2⟩)), (pb_ a.out), (pb_ g.out), z.out, fa.out, r.out, s.out, (hs_ A.out)⟩)
  skip
  refine bs1_ 8 #[.int .i64 0, .int .i64 0, .slice none 0 0] 26 ?_
  intro q hg Pb T hb
  replace c := se_ c hg hb
  have g := Aside0.mk (T)
  have z := gq_ hg A
  have fa := gq_ hg A
  replace A := st_ A hb
  have r := nk_ a hg
  have s := Ne_.mk (ng_ a.out hg)
  replace a := bk2_ a hb
  clear hb T hg
  refine ho_ hK ⟨bx_ a.out 0, bx_ a.out 1, bx_ a.out 2, bx_ a.out 3, ((A.out.cell (World.block_lt_of_cell? w _ o)).trans o), ((A.out.cell (World.block_lt_of_cell? w _ m)).trans m), ((A.out.cell (World.block_lt_of_cell? w _ l)).trans l)⟩ (fun y => ?_)
  refine o1_ 5 (m_ 12 575) ea (fun K hK => ?_)
  refine gs_ Tryz.func8 #[.agg #[.int .i64 ((rd_T26 O b).f0), .int .i64 ((rd_T26 O b).f1), .slice U ((rd_T26 O b).f2).length V], .agg #[.slice P B.length Q, .int .i64 L, .int .i64 M, .string N]] ?_
  with_reducible refine (impl_PutIn.calls k ((rd_T26 O b).f0) ((rd_T26 O b).f1) _ _ ((rd_T26 O b).f2) _ _ B L M N G I E ca _ ?side1 ?side2 ?side3 ?side4 ab.out).mono ?_
  (case side1 => exact cp_ ((Kd.C_below da.out A.out)))
  (case side2 => exact ka.out)
  (case side3 => exact cp_ ((Kd.C_below sa.out A.out)))
  (case side4 => exact ta.out)
  rintro e Qb ⟨ha, rfl, Y, hb⟩
  refine ⟨_, rfl, ?_⟩
  obtain ⟨F, aa⟩ := Kd.S_name Y
  replace c := su_ aa (sp_ c.out) hb
  have D := Aside0.mk (Kd.S_lower (Kd.S_newB (Kd.S_gez aa Y) (pb_ a.out)) (below_size (hs_ A.out)))
  replace a := bk2_ a hb
  replace g := bk2_ g hb
  replace A := st_ A hb
  (try clear hb)
  (try clear hk)
  (try clear Y)
  refine ho_ hK ⟨bx_ a.out 0, bx_ a.out 1, bx_ a.out 2, bx_ a.out 3, ((A.out.cell (World.block_lt_of_cell? w _ o)).trans o), ((A.out.cell (World.block_lt_of_cell? w _ m)).trans m), ((A.out.cell (World.block_lt_of_cell? w _ l)).trans l)⟩ (fun y => ?_)
  refine qw_ 6 (m_ 12 639) ea ?_
  refine qw_ 7 (m_ 12 767) ea ?_
  refine qw_ 8 (b_ 10 2) ea ?_
  exact norm_ (by simp only [putAll, fr_]) (za (ha, F, q) _ ⟨y, (Kd.S_mono (sp_ c.out) (fun _ hk => ⟨hk.1.1.2, ⟨hk.1.2, ⟨hk.1.1.1.2, hk.2⟩⟩⟩)), (Kd.S_mono (sp_ D.out) (fun _ hk => ⟨hk.2, hk.1.2⟩)), (pb_ a.out), (pb_ g.out), z.out, fa.out, r.out, s.out, (hs_ A.out)⟩)
 rintro ⟨ha, F, q⟩ X ⟨Rb, bb, cb, db, eb, fb, gb, ib, jb, kb⟩
 replace c : Aside0 (Kd.S k26 26 X w.heap.size (fun k_ => k_ ≠ d ∧ k_ ≠ q ∧ Z ≤ k_ ∧ k_ < F) ma x) := ⟨bb⟩
 have D : Aside0 (Kd.S k80 80 X w.heap.size (fun k_ => k_ ≠ d ∧ F ≤ k_) ha E) := ⟨cb⟩
 replace a : Aside0 (X.heap[d]? = some (.cells #[.slice P B.length Q, .int .i64 L, .int .i64 M, .string N] 29 (0, 0))) := ⟨db⟩
 have g : Aside0 (X.heap[q]? = some (.cells #[.int .i64 0, .int .i64 0, .slice none 0 0] 26 (0, 0))) := ⟨eb⟩
 have z := Ge_.mk fb
 have fa := Ge_.mk gb
 have r := Ne_.mk ib
 have s := Ne_.mk jb
 replace A : Aside0 (Below w.heap.size w X) := ⟨kb⟩
 clear bb cb db eb fb gb ib jb kb
 have y : X.cell? ⟨d, 0, none⟩ = some (.slice P B.length Q) ∧ X.cell? ⟨d, 1, none⟩ = some (.int .i64 L) ∧ X.cell? ⟨d, 2, none⟩ = some (.int .i64 M) ∧ X.cell? ⟨d, 3, none⟩ = some (.string N) ∧ X.cell? (u.add ((b).toNat * 3)) = some (.int .i64 ((rd_T26 O b).f0)) ∧ X.cell? ⟨(u.add ((b).toNat * 3)).block, (u.add ((b).toNat * 3)).off + 1, none⟩ = some (.int .i64 ((rd_T26 O b).f1)) ∧ X.cell? ⟨(u.add ((b).toNat * 3)).block, (u.add ((b).toNat * 3)).off + 2, none⟩ = some (.slice U ((rd_T26 O b).f2).length V) := Rb
 obtain ⟨qa, ra, Ja⟩ := Kd.S_slice D.out
 (first | subst Ja | (obtain ⟨rfl, rfl⟩ := si_ Ja))
 refine nm_ ?_
 refine o1_ 10 (b_ 11 1) ea (fun K hK => ?_)
 have hc : X.cell? ⟨q, 0, none⟩ = some (.int .i64 0) := bx_ g.out 0
 have Sb := blk_frozen g.out 0
 have lb := r.out
 have mb := s.out
 have ic : X.cell? ⟨q, 1, none⟩ = some (.int .i64 0) := bx_ g.out 1
 have Tb := blk_frozen g.out 1
 have nb := r.out
 have ob := s.out
 have jc : X.cell? ⟨q, 2, none⟩ = some (.slice none 0 0) := bx_ g.out 2
 have Ub := blk_frozen g.out 2
 have pb := r.out
 have qb := s.out
 refine skip_ (w1 := ?_) (by rfl) rfl ?_ ?_
 rotate_left
 ·
  go_simp
  rfl
 refine hK.out _ _ ⟨(cg_ (y.1)), (cg_ (y.2.1)), (cg_ (y.2.2.1)), (cg_ (y.2.2.2.1)), (ce_ o z.out ((ce_ o z.out ((ce_ o z.out (y.2.2.2.2.1)))))), (ce_ m z.out ((ce_ m z.out ((ce_ m z.out (y.2.2.2.2.2.1)))))), (ce_ l z.out ((ce_ l z.out ((ce_ l z.out (y.2.2.2.2.2.2))))))⟩ (fun y => ?_)
 clear hK K
 refine p_ ea ?_
 refine done_ (done_of ea.out (by kernel_rfl)) ?_
 generalize hw_ : (((X.setCell ⟨q, 0, none⟩ (.int .i64 G)).setCell ⟨q, 1, none⟩ (.int .i64 I)).setCell ⟨q, 2, none⟩ (.slice qa E.length ra)) = ba
 have rb : Aside0 (Kd.S k26 26 ba w.heap.size (fun k_ => k_ ≠ d ∧ k_ ≠ q ∧ Z ≤ k_ ∧ k_ < F) ma x) := ⟨by rw [← hw_]; exact (Kd.S_mono (sf_ q c.out (fun _ hk => hk.2.1)) (fun _ hk => ⟨hk.1, ⟨hk.2.1, ⟨hk.2.2.1, hk.2.2.2⟩⟩⟩))⟩
 have sb : Aside0 (Kd.S k80 80 ba w.heap.size (fun k_ => k_ ≠ d ∧ F ≤ k_) (.slice qa E.length ra) E) := ⟨by rw [← hw_]; exact (Kd.S_mono (sy_ D.out g.out) (fun _ hk => ⟨hk.1, hk.2⟩))⟩
 have tb : Aside0 (ba.heap[d]? = some (.cells #[.slice P B.length Q, .int .i64 L, .int .i64 M, .string N] 29 (0, 0))) := ⟨by rw [← hw_]; exact (bq_ a.out)⟩
 have ub : Aside0 (ba.heap[q]? = some (.cells #[.int .i64 G, .int .i64 I, .slice qa E.length ra] 26 (0, 0))) := ⟨by rw [← hw_]; exact (bp_ g.out)⟩
 have vb : Aside0 (Below w.heap.size w ba) := ⟨by rw [← hw_]; exact (hs_ A.out)⟩
 clear hw_
 (try clear c)
 (try clear D)
 (try clear a)
 (try clear g)
 (try clear A)
 have c := rb
 have D := sb
 have a := tb
 have g := ub
 have A := vb
 clear rb sb tb ub vb
 have Vb := s.out
 have Wb := r.out
 obtain ⟨Xb, Yb, Zb, ac, bc, cc⟩ := bc3_ g.out
 obtain ⟨Qa, Ra⟩ : 0 ≤ (b : Int) ∧ (b : Int) < ((x.length : Int) : Int) := pq_
 obtain ⟨go12, Ka, La, Ma, gl12, cl12, HG12⟩ := Kd.S_form c.out (by omega)
 (first | cases La | (injection La with ea_ en_ ec_; (first | subst ea_ | (injection ea_ with ea_; subst ea_)); subst ec_; clear en_))
 have GB12 := Aside0.mk Ma
 have GG12 := Aside0.mk HG12
 clear Ma gl12 HG12
 obtain ⟨_, kc, hcl12, hM12, oa, hfr12, _, _⟩ := Kd.S_elem c.out z26 (b : Int) Qa Ra
 obtain ⟨Ea, rfl, yb⟩ := k26_openM hM12
 have zb : ba.cell? ⟨go12, (b : Int).toNat * 3, none⟩ = some (.int .i64 ((rd_T26 x b).f0)) := oa 0 _ rfl
 have Ab : ba.cell? ⟨go12, (b : Int).toNat * 3 + 1, none⟩ = some (.int .i64 ((rd_T26 x b).f1)) := oa 1 _ rfl
 have Bb : ba.cell? ⟨go12, (b : Int).toNat * 3 + 2, none⟩ = some (Ea) := oa 2 _ rfl
 have hf12_0 : ba.frozen? ⟨go12, (b : Int).toNat * 3, none⟩ = false := hfr12 0
 have hf12_1 : ba.frozen? ⟨go12, (b : Int).toNat * 3 + 1, none⟩ = false := hfr12 1
 have hf12_2 : ba.frozen? ⟨go12, (b : Int).toNat * 3 + 2, none⟩ = false := hfr12 2
 clear hcl12 oa hfr12 hM12
 replace Qa := eq_true Qa; replace Ra := eq_true Ra
 obtain ⟨Sa, Fa, ga⟩ := Kd.S_fp (Kd.S_types (Kd.S_apart' (D.out) (Kd.S_typed c.out) (by decide)) g.out (by decide))
 have HX28 := Aside0.mk (show Kd.S k26 26 ba w.heap.size (fun k_ => ((fun k_ => k_ ≠ d ∧ k_ ≠ q)) k_ ∧ ¬ ((fun k_ => Sa k_)) k_) (.slice (some ⟨go12, 0, none⟩) x.length Ka) x from (Kd.S_mono (sp_ c.out) (fun k_ hk => ⟨⟨hk.1, hk.2.1⟩, fun e_ => (fun ez_ => Nat.lt_irrefl _ (Nat.lt_of_lt_of_le hk.2.2.2 (ga _ ez_).1.1.1.2)) e_⟩)))
 obtain ⟨oki28, lc, hcl28, hM28, pa, hfr28, hoki28, hH28⟩ := Kd.S_elem HX28.out z26 (b : Int) (of_decide_eq_true (by with_reducible assumption)) (by have h_ : (b : Int) < ((x.length : Int) : Int) := of_decide_eq_true (by with_reducible assumption); first | exact h_ | (have e_ := (Kd.S_reads' c.out).1; omega) | simpa using h_)
 obtain ⟨Cb, rfl, Db⟩ := k26_openM hM28
 have HP28 := Kd.S_seg hH28 (of_decide_eq_true (by with_reducible assumption)) (by have h_ : (b : Int) < ((x.length : Int) : Int) := of_decide_eq_true (by with_reducible assumption); first | exact h_ | (have e_ := (Kd.S_reads' c.out).1; omega) | simpa using h_) (seg := [.int .i64 G, .int .i64 I, .slice qa E.length ra]) (j := 0) (show 3 ≤ 3 from by decide) (x' := (⟨G, I, E⟩ : S26)) (k26_mkM _ _ _ (⟨G, I, E⟩ : S26) (Kd.S_mono Fa (fun _ h_ => Or.inr (h_)))) (fun _ hk => hk) (fun k_ hk_ => ⟨⟨(ga k_ hk_).1.1.1.1, (ga k_ hk_).1.2⟩, fun e_ => ((ga k_ hk_).1.1.2) (by rw [e_]; rfl)⟩)
 have Ga := pa 0 _ rfl
 (try simp only [show (k26).sz = 3 from rfl, Nat.mul_one, Nat.add_zero] at Ga)
 have hf28_0 := hfr28 0
 (try simp only [show (k26).sz = 3 from rfl, Nat.mul_one, Nat.add_zero] at hf28_0)
 have Ha := pa 1 _ rfl
 (try simp only [show (k26).sz = 3 from rfl, Nat.mul_one, Nat.add_zero] at Ha)
 have hf28_1 := hfr28 1
 (try simp only [show (k26).sz = 3 from rfl, Nat.mul_one, Nat.add_zero] at hf28_1)
 have Ia := pa 2 _ rfl
 (try simp only [show (k26).sz = 3 from rfl, Nat.mul_one, Nat.add_zero] at Ia)
 have hf28_2 := hfr28 2
 (try simp only [show (k26).sz = 3 from rfl, Nat.mul_one, Nat.add_zero] at hf28_2)
 clear hcl28 pa hfr28 hM28 hoki28 hH28
 try go_wp2_with (first | ((with_reducible refine gate_store (t := 26) (p := 32) rfl ?_); refine store_event (t := 26) (p := 32) (v := ?vo_w29) (w1 := (((ba.setCell ⟨go12, (b : Int).toNat * 3, none⟩ (.int .i64 G)).setCell ⟨go12, (b : Int).toNat * 3 + 1, none⟩ (.int .i64 I)).setCell ⟨go12, (b : Int).toNat * 3 + 2, none⟩ (.slice qa E.length ra))) ?hg ?ho ?hn ?hr ?_; (case ho => rfl); (case hg => rfl); (case hn => rfl); (case hr => first | (go_simp; done) | (go_simp; rfl)); intro Ta hw; have hg : ba.grownBy Ta (some go12) := (by rw [hw]; exact HP28.2); have hp_ : Kd.S k26 26 Ta w.heap.size (fun k_ => k_ ≠ d ∧ k_ ≠ q) (.slice (some ⟨go12, 0, none⟩) x.length Ka) ya := (by rw [hw, Da.out]; exact HP28.1); clear HP28; replace a := Aside0.mk (blk_grown (bq_ a.out) hg (Kd.S_ne c.out a.out (by decide))); replace g := Aside0.mk (blk_grown (bq_ g.out) hg (Kd.S_away c.out (fun _ hk => hk.2.1))); replace c := Aside0.mk (hp_); replace A := Aside0.mk ((by rw [hw]; exact below_set (below_set (below_set (A.out) GB12.out) GB12.out) GB12.out : Below w.heap.size w Ta)); clear D; clear hg hw hp_))
 go_ret2
 exact ⟨_, rr_, Kd.S_mono (sp_ c.out) (fun _ hk => trivial), hs_ A.out⟩
def impl_FindIn.f (k : Nat) (a0_0 : Int) (a0_1 : Int) (l0_2 : List (S80)) (l1 : List (S99)) : Option ((List (S99)) × Int × Int × ByteArray × Bool) := (impl_Finger.f k l1).bind fun t817 => ((impl_chainOf.f k a0_0 a0_1 l0_2 t817).bind fun t818 => (if t818 < 0 then (some (([] : List (S99)), 0, 0, (⟨#[]⟩ : ByteArray), false)) else (if 0 ≤ t818 then (if t818 < (l0_2.length : Int) then ((impl_InChain.f k ((rd_T80 l0_2 t818).f0) ((rd_T80 l0_2 t818).f1) l1).bind fun t820 => (if t820 < 0 then (some (([] : List (S99)), 0, 0, (⟨#[]⟩ : ByteArray), false)) else (if 0 ≤ t820 then (if t820 < (((rd_T80 l0_2 t818).f1).length : Int) then ((impl_copyAlarm.f ((rd_T29 ((rd_T80 l0_2 t818).f1) t820).f0) ((rd_T29 ((rd_T80 l0_2 t818).f1) t820).f1) ((rd_T29 ((rd_T80 l0_2 t818).f1) t820).f2) ((rd_T29 ((rd_T80 l0_2 t818).f1) t820).f3)).bind fun bt823 => (some (bt823.1, bt823.2.1, bt823.2.2.1, bt823.2.2.2, true))) else (none)) else (none)))) else (none)) else (none))))
theorem impl_FindIn.calls (k : Nat) (s : Int) (t : Int) (F : Option Addr) (G : Nat) (b : List (S80)) (A1 : Option Addr) (c1 : Nat) (l1 : List (S99)) (r1 : List (S99)) (r2 : Int) (r3 : Int) (r4 : ByteArray) (r5 : Bool) (w : World) (ba : Kd.C k80 w F b.length b) (ca : b.length ≤ G) (Fa : Kd.C k99 w A1 l1.length l1) (Ga : l1.length ≤ c1) (h : impl_FindIn.f k s t b l1 = some (r1, r2, r3, r4, r5)) :
  Calls Tryz.prog 11 #[.agg #[.int .i64 s, .int .i64 t, .slice F b.length G], .slice A1 l1.length c1] w fun e w' => ∃ v0_ : Value, e = .returned (.tuple #[.agg #[v0_, .int .i64 r2, .int .i64 r3, .string r4], .bool r5]) ∧ Kd.R k99 99 w' w.heap.size (fun _ => True) v0_ r1 ∧ Below w.heap.size w w' := by
 have hu26 := Tryz.underlying26
 have hu29 := Tryz.underlying29
 have hu80 := Tryz.underlying80
 have A := Aside0.mk ba
 have ua := Aside0.mk ca
 clear ba ca
 have va := Aside0.mk Fa
 have wa := Aside0.mk Ga
 clear Fa Ga
 have m := Aside0.mk (Below.refl w.heap.size w)
 have H : ((impl_Finger.f k l1).bind fun I => ((impl_chainOf.f k s t b I).bind fun a => (if a < 0 then (some (([] : List (S99)), 0, 0, (⟨#[]⟩ : ByteArray), false)) else (if 0 ≤ a then (if a < (b.length : Int) then ((impl_InChain.f k ((rd_T80 b a).f0) ((rd_T80 b a).f1) l1).bind fun g => (if g < 0 then (some (([] : List (S99)), 0, 0, (⟨#[]⟩ : ByteArray), false)) else (if 0 ≤ g then (if g < (((rd_T80 b a).f1).length : Int) then ((impl_copyAlarm.f ((rd_T29 ((rd_T80 b a).f1) g).f0) ((rd_T29 ((rd_T80 b a).f1) g).f1) ((rd_T29 ((rd_T80 b a).f1) g).f2) ((rd_T29 ((rd_T80 b a).f1) g).f3)).bind fun bt823 => (some (bt823.1, bt823.2.1, bt823.2.2.1, bt823.2.2.2, true))) else (none)) else (none)))) else (none)) else (none))))) = some (r1, r2, r3, r4, r5) := h
 clear h
 replace H := bi_ H; obtain ⟨I, A3, H⟩ := H
 replace H := bi_ H; obtain ⟨a, A4, H⟩ := H
 have AHz_ := Aside0.mk H
 clear H
 go_enter Tryz.func11, Tryz.ntmps11
 try go_wp2_with (first | ((with_reducible refine gd_ 2 rfl ?_); refine bv_ 2 #[.int .i64 s, .int .i64 t, .slice F b.length G] 26 ?_; intro Y hg w6 J hb; have c := Aside0.mk (J); have xa := gq_ hg m; replace m := st_ m hb; have Ya := Ge_.mk xa.out; clear hb J hg) | ((with_reducible refine gd_ 4 rfl ?_); refine bv_ 4 #[.slice none 0 0, .int .i64 0, .int .i64 0, .string (⟨#[]⟩ : ByteArray)] 29 ?_; intro Z hg w7 J hb; have d := Aside0.mk (J); have ya := gq_ hg m; replace m := st_ m hb; have Za := Ge_.mk ya.out; obtain ⟨q, r, c⟩ := nb_ c hg hb; clear hb J hg))
 replace c := Aside0.mk (blk_drew c.out)
 replace d := Aside0.mk (blk_drew d.out)
 replace m := Aside0.mk (bd_ m.out)
 refine start_ (n := 5) (S := fun w' => w'.cell? ⟨Y, 0, none⟩ = some (.int .i64 s) ∧ w'.cell? ⟨Y, 1, none⟩ = some (.int .i64 t) ∧ w'.cell? ⟨Y, 2, none⟩ = some (.slice F b.length G)) (ds := []) (b_ 0 5) (by kernel_rfl) rfl rfl ⟨bx_ c.out 0, bx_ c.out 1, bx_ c.out 2⟩ (fun B => ?_)
 generalize w7.drew = w8 at c d m B ⊢
 refine pure_ (i := 1) (N := some 9) (v := ?_) (a' := ?_) #[f_,t_,f_,f_,f_] rfl rfl (by kernel_rfl) (fun _ _ _ h => h) (Or.inl ⟨by rfl, ?_⟩) ?_ ?_
 rotate_left
 ·
  intro w'
  go_simp
  with_reducible rfl
 rotate_left
 ·
  simp only [fr_]
  rfl
 refine take_ (i := 0) (N := some 8) (v := ?_) (a' := ?_) (b_ 2 3) rfl rfl (by kernel_rfl) (fun _ _ _ h => h) (Or.inl ⟨by rfl, ?_⟩) B ?_ ?_
 rotate_left
 ·
  rintro w' ⟨s0, s1, s2⟩
  go_simp
  with_reducible rfl
 rotate_left
 ·
  simp only [fr_]
  rfl
 refine one_ (i := 2) (N := some 10) (b_ 3 2) rfl rfl (by kernel_rfl) (by decide) (fun K hK => ?_)
 refine gs_ Tryz.func55 #[.slice A1 l1.length c1] ?_
 with_reducible refine (impl_Finger.calls k _ _ l1 I _ ?side1 ?side2 A3.out).mono ?_
 (case side1 => exact cp_ ((Kd.C_below va.out m.out)))
 (case side2 => exact wa.out)
 rintro e w9 ⟨rfl, hb⟩
 refine ⟨_, rfl, ?_⟩
 replace c := bk2_ c hb
 replace d := bk2_ d hb
 replace m := st_ m hb
 (try clear hb)
 (try clear hk)
 refine ho_ hK (e3_ c.out) (fun B => ?_)
 refine one_ (i := 3) (N := some 11) (b_ 4 1) rfl rfl (by kernel_rfl) (by decide) (fun K hK => ?_)
 refine gs_ Tryz.func56 #[.agg #[.int .i64 s, .int .i64 t, .slice F b.length G], .int .i64 I] ?_
 with_reducible refine (impl_chainOf.calls k s t _ _ b I a _ ?side1 ?side2 A4.out).mono ?_
 (case side1 => exact cp_ ((Kd.C_below A.out m.out)))
 (case side2 => exact ua.out)
 rintro e ic ⟨rfl, hb⟩
 refine ⟨_, rfl, ?_⟩
 replace c := bk2_ c hb
 replace d := bk2_ d hb
 replace m := st_ m hb
 (try clear hb)
 (try clear hk)
 refine ho_ hK (e3_ c.out) (fun B => ?_)
 refine pure_ (i := 4) (N := some 6) (v := ?_) (a' := ?_) #[t_,t_,t_,t_,t_] rfl rfl (by kernel_rfl) (fun _ _ _ h => h) (Or.inl ⟨by rfl, ?_⟩) ?_ ?_
 rotate_left
 ·
  intro w'
  go_simp
  with_reducible rfl
 rotate_left
 ·
  simp only [fr_]
  rfl
 have H := AHz_.out
 clear AHz_
 replace H := ie_ H; rcases H with ⟨c5, H⟩ | ⟨c5, H⟩
 ·
  have Ia := decide_eq_true c5
  clear c5
  simp only [Option.some.injEq, Prod.mk.injEq] at H
  obtain ⟨rfl, rfl, rfl, rfl, rfl⟩ := H
  refine done_ (by kernel_rfl) ?_
  have bb := r.out
  have cb := q.out
  obtain ⟨db, eb, fb, gb, ib, jb, kb, lb⟩ := bc4_ d.out
  try go_wp2
  refine bodyPost_ret (results_ct rfl _ _ Z 29 #[.slice none 0 0, .int .i64 0, .int .i64 0, .string (⟨#[]⟩ : ByteArray)] (0, 0) _ rfl (bp_ d.out) Tryz.underlying29 rfl (by kernel_rfl)) rfl ?_
  exact ⟨_, rr_, by first | exact Kd.R_nil _ _ _ _ _ | exact Kd.N_nil _ _ _ _ _ | exact Kd.V_nil _ _ _ _ _ | exact Kd.Q_nil _ _ _ _ _ | exact Kd.S_nil _ _ _ _ _, hs_ m.out⟩
 have Ia : decide (a < 0) = false := decide_eq_false c5
 clear c5
 replace H := id_ H; obtain ⟨mb, H⟩ := H
 replace H := id_ H; obtain ⟨nb, H⟩ := H
 replace H := bi_ H; obtain ⟨g, Ja, H⟩ := H
 replace H := ie_ H; rcases H with ⟨da, H⟩ | ⟨da, H⟩
 ·
  have za := decide_eq_true da
  clear da
  simp only [Option.some.injEq, Prod.mk.injEq] at H
  obtain ⟨rfl, rfl, rfl, rfl, rfl⟩ := H
  refine done_ (by kernel_rfl) ?_
  have ob := q.out
  have pb := r.out
  obtain ⟨qb, rb, sb, tb, ub, vb⟩ := bc3_ c.out
  obtain ⟨u, x⟩ : 0 ≤ (a : Int) ∧ a < (b.length : Int) := pq_
  obtain ⟨ea, D, E, fa, j, l, o, p⟩ := at_T80 A.out a u x
  cases fa
  replace j := c2_ m j l; clear l; obtain ⟨j, l⟩ := j
  have y := Aside0.mk p
  have z := Aside0.mk o
  clear p o
  replace u := eq_true u; replace x := eq_true x
  try go_wp2_with (first | ((with_reducible refine gate_callee (f := 64) rfl ?_); refine gl_ (some 21) Tryz.func64 #[.agg #[.int .i64 ((rd_T80 b a).f0), .slice D ((rd_T80 b a).f1).length E], .slice A1 l1.length c1] ?_; (with_reducible refine (impl_InChain.calls k ((rd_T80 b a).f0) _ _ ((rd_T80 b a).f1) _ _ l1 g _ ?side1 ?side2 ?side3 ?side4 Ja.out).mono ?_); (case side1 => exact cp_ ((Kd.C_below y.out m.out))); (case side2 => exact z.out); (case side3 => exact cp_ ((Kd.C_below va.out m.out))); (case side4 => exact wa.out); rintro e jc ⟨rfl, hb⟩; refine ⟨_, rfl, ?_⟩; replace c := bk2_ c hb; replace d := bk2_ d hb; replace m := st_ m hb; (try clear hb); (try clear hk); obtain ⟨wb, xb, yb, zb, Ab, Bb, Cb, Db⟩ := bc4_ d.out))
  refine bodyPost_ret (results_ct rfl _ _ Z 29 #[.slice none 0 0, .int .i64 0, .int .i64 0, .string (⟨#[]⟩ : ByteArray)] (0, 0) _ rfl (bp_ d.out) Tryz.underlying29 rfl (by kernel_rfl)) rfl ?_
  exact ⟨_, rr_, by first | exact Kd.R_nil _ _ _ _ _ | exact Kd.N_nil _ _ _ _ _ | exact Kd.V_nil _ _ _ _ _ | exact Kd.Q_nil _ _ _ _ _ | exact Kd.S_nil _ _ _ _ _, hs_ m.out⟩
 have za : decide (g < 0) = false := decide_eq_false da
 clear da
 replace H := id_ H; obtain ⟨Eb, H⟩ := H
 replace H := id_ H; obtain ⟨Fb, H⟩ := H
 replace H := bi_ H; obtain ⟨⟨qa, ra, sa, ta⟩, Gb, H⟩ := H; (try dsimp only at H)
 simp only [Option.some.injEq, Prod.mk.injEq] at H
 obtain ⟨rfl, rfl, rfl, rfl, rfl⟩ := H
 refine done_ (by kernel_rfl) ?_
 have Hb := q.out
 have Ib := r.out
 obtain ⟨Jb, Kb, Lb, Mb, Nb, Ob⟩ := bc3_ c.out
 obtain ⟨u, x⟩ : 0 ≤ (a : Int) ∧ a < (b.length : Int) := pq_
 obtain ⟨ea, D, E, fa, j, l, o, p⟩ := at_T80 A.out a u x
 cases fa
 replace j := c2_ m j l; clear l; obtain ⟨j, l⟩ := j
 have y := Aside0.mk p
 have z := Aside0.mk o
 clear p o
 replace u := eq_true u; replace x := eq_true x
 try go_wp2_with (first | ((with_reducible refine gate_callee (f := 64) rfl ?_); refine gl_ (some 21) Tryz.func64 #[.agg #[.int .i64 ((rd_T80 b a).f0), .slice D ((rd_T80 b a).f1).length E], .slice A1 l1.length c1] ?_; (with_reducible refine (impl_InChain.calls k ((rd_T80 b a).f0) _ _ ((rd_T80 b a).f1) _ _ l1 g _ ?side1 ?side2 ?side3 ?side4 Ja.out).mono ?_); (case side1 => exact cp_ ((Kd.C_below y.out m.out))); (case side2 => exact z.out); (case side3 => exact cp_ ((Kd.C_below va.out m.out))); (case side4 => exact wa.out); rintro e kc ⟨rfl, hb⟩; refine ⟨_, rfl, ?_⟩; replace c := bk2_ c hb; replace d := bk2_ d hb; replace m := st_ m hb; (try clear hb); (try clear hk); obtain ⟨Pb, Qb, Rb, Sb, Tb, Ub⟩ := bc3_ c.out; have ga : 0 ≤ (a : Int) := of_decide_eq_true (by with_reducible assumption); have ha : a < (b.length : Int) := of_decide_eq_true (by with_reducible assumption); obtain ⟨Aa, Qa, Ra, Ka, L, M, O, P⟩ := at_T80 A.out a ga ha; obtain rfl : ea = Aa := (by injection Ka); replace L := cl_ m.out L; replace M := cl_ m.out M; have ia := Aside0.mk P; have La := Aside0.mk O; clear P O; replace ga := eq_true ga; replace ha := eq_true ha; have ja : 0 ≤ (g : Int) := of_decide_eq_true (by with_reducible assumption); have ka : g < (((rd_T80 b a).f1).length : Int) := of_decide_eq_true (by with_reducible assumption); obtain ⟨Vb, oa, pa, Ma, Q, T, U, V, W, X⟩ := at_T29 ia.out g ja ka; cases Ma; replace Q := cl_ m.out Q; replace T := cl_ m.out T; replace U := cl_ m.out U; replace V := cl_ m.out V; have la := Aside0.mk X; have ma := Aside0.mk W; clear X W; replace ja := eq_true ja; replace ka := eq_true ka) | ((with_reducible refine gate_callee (f := 58) rfl ?_); refine gl_ (some 34) Tryz.func58 #[.agg #[.slice oa ((rd_T29 ((rd_T80 b a).f1) g).f0).length pa, .int .i64 ((rd_T29 ((rd_T80 b a).f1) g).f1), .int .i64 ((rd_T29 ((rd_T80 b a).f1) g).f2), .string ((rd_T29 ((rd_T80 b a).f1) g).f3)]] ?_; (with_reducible refine (impl_copyAlarm.calls _ _ ((rd_T29 ((rd_T80 b a).f1) g).f0) ((rd_T29 ((rd_T80 b a).f1) g).f1) ((rd_T29 ((rd_T80 b a).f1) g).f2) ((rd_T29 ((rd_T80 b a).f1) g).f3) qa ra sa ta _ ?side1 ?side2 Gb.out).mono ?_); (case side1 => exact cp_ ((Kd.C_below la.out m.out))); (case side2 => exact ma.out); rintro e lc ⟨ec, rfl, Ba, hb⟩; refine ⟨_, rfl, ?_⟩; obtain ⟨Sa, Ca⟩ := Kd.R_name Ba; have na := rg_ Ca Ba m; replace c := bk2_ c hb; replace d := bk2_ d hb; replace m := st_ m hb; (try clear hb); (try clear hk); (try clear Ba); obtain ⟨Na, Oa, Pa⟩ := Kd.R_slice na.out; subst Pa; obtain ⟨Wb, Xb, Yb, Zb, ac, bc, cc, dc⟩ := bc4_ d.out))
 refine bodyPost_ret (results_ct rfl _ _ Z 29 #[.slice Na qa.length Oa, .int .i64 ra, .int .i64 sa, .string ta] (0, 0) _ rfl (bp_ d.out) Tryz.underlying29 rfl (by kernel_rfl)) rfl ?_
 exact ⟨_, rr_, Kd.R_mono (ry_ na.out d.out) (fun _ hk => trivial), hs_ m.out⟩
def impl_FindAlarm.f (k : Nat) (l0 : List (S26)) (l1 : List (S99)) : Option ((List (S99)) × Int × Int × ByteArray × Bool) := if (l0.length : Int) = 0 then (some (([] : List (S99)), 0, 0, (⟨#[]⟩ : ByteArray), false)) else ((impl_HomeOf.f k l0 l1).bind fun t1407 => (if 0 ≤ t1407 then (if t1407 < (l0.length : Int) then ((impl_FindIn.f k ((rd_T26 l0 t1407).f0) ((rd_T26 l0 t1407).f1) ((rd_T26 l0 t1407).f2) l1).bind fun bt1409 => (some (bt1409.1, bt1409.2.1, bt1409.2.2.1, bt1409.2.2.2.1, bt1409.2.2.2.2))) else (none)) else (none)))
theorem impl_FindAlarm.calls (k : Nat) (A0 : Option Addr) (c0 : Nat) (c : List (S26)) (Z : Option Addr) (c1 : Nat) (v : List (S99)) (r1 : List (S99)) (r2 : Int) (r3 : Int) (r4 : ByteArray) (r5 : Bool) (w : World) (L : Kd.C k26 w A0 c.length c) (M : c.length ≤ c0) (N : Kd.C k99 w Z v.length v) (O : v.length ≤ c1) (h : impl_FindAlarm.f k c v = some (r1, r2, r3, r4, r5)) :
  Calls Tryz.prog 30 #[.slice A0 c.length c0, .slice Z v.length c1] w fun e w' => ∃ v0_ : Value, e = .returned (.tuple #[.agg #[v0_, .int .i64 r2, .int .i64 r3, .string r4], .bool r5]) ∧ Kd.R k99 99 w' w.heap.size (fun _ => True) v0_ r1 ∧ Below w.heap.size w w' := by
 have hu29 := Tryz.underlying29
 have hu26 := Tryz.underlying26
 have P := Aside0.mk L
 have ja := Aside0.mk M
 clear L M
 have Q := Aside0.mk N
 have S := Aside0.mk O
 clear N O
 have d := Aside0.mk (Below.refl w.heap.size w)
 have H : (if (c.length : Int) = 0 then (some (([] : List (S99)), 0, 0, (⟨#[]⟩ : ByteArray), false)) else ((impl_HomeOf.f k c v).bind fun a => (if 0 ≤ a then (if a < (c.length : Int) then ((impl_FindIn.f k ((rd_T26 c a).f0) ((rd_T26 c a).f1) ((rd_T26 c a).f2) v).bind fun bt1409 => (some (bt1409.1, bt1409.2.1, bt1409.2.2.1, bt1409.2.2.2.1, bt1409.2.2.2.2))) else (none)) else (none)))) = some (r1, r2, r3, r4, r5) := h
 clear h
 replace H := ie_ H; rcases H with ⟨G, H⟩ | ⟨G, H⟩
 ·
  have T : ((c.length : Int) == 0) = true := beq_iff_eq.mpr G
  have U : ((c.length : Int) != 0) = false := bne_eq_false_iff_eq.mpr G
  clear G
  simp only [Option.some.injEq, Prod.mk.injEq] at H
  obtain ⟨rfl, rfl, rfl, rfl, rfl⟩ := H
  go_enter Tryz.func30, Tryz.ntmps30
  go_wp2_with (first | ((with_reducible refine gd_ 4 rfl ?_); refine bv_ 4 #[.slice none 0 0, .int .i64 0, .int .i64 0, .string (⟨#[]⟩ : ByteArray)] 29 ?_; intro n hg w4 p hb; have b := Aside0.mk (p); have o := gq_ hg d; replace d := st_ d hb; have E := Ge_.mk o.out; clear hb p hg; obtain ⟨ta, ua, va, wa, xa, ya, za, Aa⟩ := bc4_ b.out))
  refine bodyPost_ret (results_ct rfl _ _ n 29 #[.slice none 0 0, .int .i64 0, .int .i64 0, .string (⟨#[]⟩ : ByteArray)] (0, 0) _ rfl (bp_ b.out) Tryz.underlying29 rfl (by kernel_rfl)) rfl ?_
  exact ⟨_, rr_, by first | exact Kd.R_nil _ _ _ _ _ | exact Kd.N_nil _ _ _ _ _ | exact Kd.V_nil _ _ _ _ _ | exact Kd.Q_nil _ _ _ _ _ | exact Kd.S_nil _ _ _ _ _, hs_ d.out⟩
 have T : ((c.length : Int) == 0) = false := beq_eq_false_iff_ne.mpr G
 have U : ((c.length : Int) != 0) = true := bne_iff_ne.mpr G
 have Ba : ¬ (c = []) := fun h_ => G (by rw [h_]; rfl)
 replace H := bi_ H; obtain ⟨a, A6, H⟩ := H
 replace H := id_ H; obtain ⟨Ca, H⟩ := H
 replace H := id_ H; obtain ⟨Da, H⟩ := H
 replace H := bi_ H; obtain ⟨⟨x, y, z, A, I⟩, A9, H⟩ := H; (try dsimp only at H)
 simp only [Option.some.injEq, Prod.mk.injEq] at H
 obtain ⟨rfl, rfl, rfl, rfl, rfl⟩ := H
 go_enter Tryz.func30, Tryz.ntmps30
 go_wp2_with (first | ((with_reducible refine gd_ 4 rfl ?_); refine bv_ 4 #[.slice none 0 0, .int .i64 0, .int .i64 0, .string (⟨#[]⟩ : ByteArray)] 29 ?_; intro n hg Ga p hb; have b := Aside0.mk (p); have o := gq_ hg d; replace d := st_ d hb; have E := Ge_.mk o.out; clear hb p hg) | ((with_reducible refine gate_callee (f := 47) rfl ?_); refine gl_ (some 13) Tryz.func47 #[.slice A0 c.length c0, .slice Z v.length c1] ?_; (with_reducible refine (impl_HomeOf.calls k _ _ c _ _ v a _ ?side1 ?side2 ?side3 ?side4 A6.out).mono ?_); (case side1 => exact cp_ ((Kd.C_below P.out d.out))); (case side2 => exact ja.out); (case side3 => exact cp_ ((Kd.C_below Q.out d.out))); (case side4 => exact S.out); rintro e Ha ⟨rfl, hb⟩; refine ⟨_, rfl, ?_⟩; replace b := bk2_ b hb; replace d := st_ d hb; (try clear hb); (try clear hk); have q : 0 ≤ (a : Int) := of_decide_eq_true (by with_reducible assumption); have r : a < (c.length : Int) := of_decide_eq_true (by with_reducible assumption); obtain ⟨ba, B, D, J, g, i, j, l, m⟩ := at_T26 P.out a q r; cases J; replace g := cl_ d.out g; replace i := cl_ d.out i; replace j := cl_ d.out j; have t := Aside0.mk m; have u := Aside0.mk l; clear m l; replace q := eq_true q; replace r := eq_true r) | ((with_reducible refine gate_callee (f := 11) rfl ?_); refine gl_ (some 17) Tryz.func11 #[.agg #[.int .i64 ((rd_T26 c a).f0), .int .i64 ((rd_T26 c a).f1), .slice B ((rd_T26 c a).f2).length D], .slice Z v.length c1] ?_; (with_reducible refine (impl_FindIn.calls k ((rd_T26 c a).f0) ((rd_T26 c a).f1) _ _ ((rd_T26 c a).f2) _ _ v x y z A I _ ?side1 ?side2 ?side3 ?side4 A9.out).mono ?_); (case side1 => exact cp_ ((Kd.C_below t.out d.out))); (case side2 => exact u.out); (case side3 => exact cp_ ((Kd.C_below Q.out d.out))); (case side4 => exact S.out); rintro e Ia ⟨ka, rfl, K, hb⟩; refine ⟨_, rfl, ?_⟩; obtain ⟨V, F⟩ := Kd.R_name K; have s := rg_ F K d; replace b := bk2_ b hb; replace d := st_ d hb; (try clear hb); (try clear hk); (try clear K); obtain ⟨W, X, Y⟩ := Kd.R_slice s.out; subst Y; obtain ⟨la, ma, na, oa, pa, qa, ra, sa⟩ := bc4_ b.out))
 refine bodyPost_ret (results_ct rfl _ _ n 29 #[.slice W x.length X, .int .i64 y, .int .i64 z, .string A] (0, 0) _ rfl (bp_ b.out) Tryz.underlying29 rfl (by kernel_rfl)) rfl ?_
 exact ⟨_, rr_, Kd.R_mono (ry_ s.out b.out) (fun _ hk => trivial), hs_ d.out⟩
mutual
def impl_SetLess.l0 : Nat → List (S99) → List (S99) → Int → Option (Bool)
 | 0, _, _, _ => none
 | k + 1, x0, x1, x5 => if x5 < (x0.length : Int) then (impl_SetLess.j1 k x0 x1 x5 (decide (x5 < (x1.length : Int)))) else (impl_SetLess.j1 k x0 x1 x5 false)
def impl_SetLess.j1 : Nat → List (S99) → List (S99) → Int → Bool → Option (Bool)
 | 0, _, _, _, _ => none
 | k + 1, x0, x1, x5, x15 => if x15 = true then (if 0 ≤ x5 then (if x5 < (x0.length : Int) then (if x5 < (x1.length : Int) then (if ((rd_T99 x0 x5).f0).toList = ((rd_T99 x1 x5).f0).toList then (if ((rd_T99 x0 x5).f1).toList = ((rd_T99 x1 x5).f1).toList then (impl_SetLess.l0 k x0 x1 (wrap64 (x5 + 1))) else (some (Op.bytesLess (((rd_T99 x0 x5).f1).toList) (((rd_T99 x1 x5).f1).toList)))) else (some (Op.bytesLess (((rd_T99 x0 x5).f0).toList) (((rd_T99 x1 x5).f0).toList)))) else (none)) else (none)) else (none)) else (some (decide ((x0.length : Int) < (x1.length : Int))))
end
def impl_SetLess.f (k : Nat) (l0 : List (S99)) (l1 : List (S99)) : Option (Bool) := impl_SetLess.l0 k l0 l1 0
theorem impl_SetLess.mono_l : ∀ k, (∀ y0 y1 y2, LeO (impl_SetLess.l0 k y0 y1 y2) (impl_SetLess.l0 (k + 1) y0 y1 y2)) ∧ (∀ y0 y1 y2 y3, LeO (impl_SetLess.j1 k y0 y1 y2 y3) (impl_SetLess.j1 (k + 1) y0 y1 y2 y3))
 | 0 => ⟨fun _ _ _ r h => by simp [impl_SetLess.l0] at h, fun _ _ _ _ r h => by simp [impl_SetLess.j1] at h⟩
 | k + 1 => by
  obtain ⟨ih0, ih1⟩ := impl_SetLess.mono_l k
  refine ⟨?_, ?_⟩
  ·
   intro y0 y1 y2
   unfold impl_SetLess.l0
   repeat' first
   | (with_reducible exact ih0 _ _ _)
   | (with_reducible exact ih1 _ _ _ _)
   | (with_reducible exact LeO.refl _)
   | (with_reducible exact LeO.none _)
   | (with_reducible refine LeO.ite ?_ ?_)
   | (with_reducible refine LeO.bind ?_ (fun _ => ?_))
   | exact ih0 _ _ _
   | exact ih1 _ _ _ _
  intro y0 y1 y2 y3
  unfold impl_SetLess.j1
  repeat' first
  | (with_reducible exact ih0 _ _ _)
  | (with_reducible exact ih1 _ _ _ _)
  | (with_reducible exact LeO.refl _)
  | (with_reducible exact LeO.none _)
  | (with_reducible refine LeO.ite ?_ ?_)
  | (with_reducible refine LeO.bind ?_ (fun _ => ?_))
  | exact ih0 _ _ _
  | exact ih1 _ _ _ _
theorem impl_SetLess.mono : ∀ a0 a1 k, LeO (impl_SetLess.f k a0 a1) (impl_SetLess.f (k + 1) a0 a1) := by
 intro a0 a1 k
 obtain ⟨ih0, ih1⟩ := impl_SetLess.mono_l k
 unfold impl_SetLess.f
 repeat' first | (with_reducible first | exact ih0 _ _ _ | exact ih1 _ _ _ _ | exact LeO.refl _ | exact LeO.none _ | refine LeO.ite ?_ ?_ | refine LeO.bind ?_ (fun _ => ?_)) | exact ih0 _ _ _ | exact ih1 _ _ _ _
theorem impl_SetLess.calls (k : Nat) (A0 : Option Addr) (c0 : Nat) (l0 : List (S99)) (A1 : Option Addr) (c1 : Nat) (p : List (S99)) (r : Bool) (w : World) (ra : Kd.C k99 w A0 l0.length l0) (sa : l0.length ≤ c0) (ta : Kd.C k99 w A1 p.length p) (ua : p.length ≤ c1) (h : impl_SetLess.f k l0 p = some r) :
  Calls Tryz.prog 33 #[.slice A0 l0.length c0, .slice A1 p.length c1] w fun e w' => e = .returned (.bool r) ∧ Drawn0 w w' := by
 have B := Aside0.mk ra
 have Ha := Aside0.mk sa
 clear ra sa
 have D := Aside0.mk ta
 have Ia := Aside0.mk ua
 clear ta ua
 have H : (impl_SetLess.l0 k l0 p 0) = some r := h
 clear h
 have H' := Aside0.mk H
 clear H
 go_enter Tryz.func33, Tryz.ntmps33
 go_wp2
 repeat (go_quiet (fail); try go_wp2)
 go_loopg [5] k (fun kq v5 w' => ∃ (a : Int), v5 = .int .i64 a ∧ Aside0 (impl_SetLess.l0 kq l0 p a = some r) ∧ Aside0 (kq ≤ k) ∧ Drawn0 w w')
 case atStart => exact ⟨(0), rs_, H', ⟨Nat.le_refl _⟩, by repeat (first | exact Drawn0.refl _ | apply Drawn0.step)⟩
 case round =>
  clear H'
  obtain ⟨a, rfl, HA, V, ⟨m1, rfl⟩⟩ := hrel
  cases gk with
  | zero => exact absurd HA.out (by simp [impl_SetLess.l0])
  | succ k1 =>
   have H := HA.out
   clear HA
   simp only [impl_SetLess.l0] at H
   have ba := Aside0.mk H
   clear H
   go_upto_region 2 with (fail)
   repeat (go_quiet (fail); go_upto_region 2 with (fail))
   go_cut [15] (fun ya wc => ∃ (kq : Nat) (E : Bool), ya = .bool E ∧ Aside0 (impl_SetLess.j1 kq l0 p a E = some r) ∧ Aside0 (kq ≤ k1) ∧ Drawn0 w wc)
   case first =>
    have H := ba.out
    clear ba
    replace H := ie_ H; rcases H with ⟨c4, H⟩ | ⟨c4, H⟩
    ·
     have A := decide_eq_true c4
     clear c4
     (first | rw [A] | (simp only [i64_w, i32_w]; rw [A]) | skip)
     have H' := Aside0.mk H
     clear H
     go_wp2
     repeat (go_quiet (fail); try go_wp2)
     go_meet
     case rel => exact ⟨_, (decide (a < (p.length : Int))), rs_, H', ⟨by have := V.out; first | omega | exact Nat.le_refl _⟩, by repeat (first | exact Drawn0.refl _ | apply Drawn0.step)⟩
    have A : decide (a < (l0.length : Int)) = false := decide_eq_false c4
    clear c4
    (first | rw [A] | (simp only [i64_w, i32_w]; rw [A]) | skip)
    have H' := Aside0.mk H
    clear H
    go_wp2
    repeat (go_quiet (fail); try go_wp2)
    go_meet
    case rel => exact ⟨_, (false), rs_, H', ⟨by have := V.out; first | omega | exact Nat.le_refl _⟩, by repeat (first | exact Drawn0.refl _ | apply Drawn0.step)⟩
   case rest =>
    clear ba
    obtain ⟨kq, E, rfl, HA, HJ2, ⟨mc2, rfl⟩⟩ := hcut
    cases kq with
    | zero => exact absurd HA.out (by simp [impl_SetLess.j1])
    | succ za =>
     have H := HA.out
     clear HA
     simp only [impl_SetLess.j1] at H
     replace H := ib_ H; rcases H with ⟨rfl, H⟩ | ⟨rfl, H⟩
     ·
      replace H := id_ H; obtain ⟨Ea, H⟩ := H
      replace H := id_ H; obtain ⟨Fa, H⟩ := H
      replace H := id_ H; obtain ⟨Ga, H⟩ := H
      replace H := ie_ H; rcases H with ⟨c9, H⟩ | ⟨c9, H⟩
      ·
       have wa : (((rd_T99 l0 a).f0).toList == ((rd_T99 p a).f0).toList) = true := beq_iff_eq.mpr c9
       have xa : (((rd_T99 l0 a).f0).toList != ((rd_T99 p a).f0).toList) = false := bne_eq_false_iff_eq.mpr c9
       clear c9
       replace H := ie_ H; rcases H with ⟨Q, H⟩ | ⟨Q, H⟩
       ·
        have ca : (((rd_T99 l0 a).f1).toList == ((rd_T99 p a).f1).toList) = true := beq_iff_eq.mpr Q
        have da : (((rd_T99 l0 a).f1).toList != ((rd_T99 p a).f1).toList) = false := bne_eq_false_iff_eq.mpr Q
        clear Q
        have H' := Aside0.mk H
        clear H
        obtain ⟨b, c⟩ : 0 ≤ (a : Int) ∧ a < (l0.length : Int) := pq_
        obtain ⟨i, q, t, u⟩ := at_T99 B.out a b c
        cases q
        replace b := eq_true b; replace c := eq_true c
        obtain ⟨d, g⟩ : 0 ≤ (a : Int) ∧ a < (p.length : Int) := pq_
        obtain ⟨j, s, v, x⟩ := at_T99 D.out a d g
        cases s
        replace d := eq_true d; replace g := eq_true g
        obtain ⟨l, m⟩ : 0 ≤ (a : Int) ∧ a < (l0.length : Int) := pq_
        obtain ⟨y, F, R, S⟩ := at_T99 B.out a l m
        obtain rfl : i = y := (by injection F)
        replace l := eq_true l; replace m := eq_true m
        obtain ⟨n, o⟩ : 0 ≤ (a : Int) ∧ a < (p.length : Int) := pq_
        obtain ⟨z, G, T, U⟩ := at_T99 D.out a n o
        obtain rfl : j = z := (by injection G)
        replace n := eq_true n; replace o := eq_true o
        go_wp2
        repeat (go_quiet (fail); try go_wp2)
        go_roundg za
        case measure => have := V.out; have := HJ2.out; omega
        case rel => exact ⟨(wrap64 (a + 1)), rs_, H', ⟨by have := V.out; have := HJ2.out; omega⟩, by repeat (first | exact Drawn0.refl _ | apply Drawn0.step)⟩
       have ca : (((rd_T99 l0 a).f1).toList == ((rd_T99 p a).f1).toList) = false := beq_eq_false_iff_ne.mpr Q
       have da : (((rd_T99 l0 a).f1).toList != ((rd_T99 p a).f1).toList) = true := bne_iff_ne.mpr Q
       obtain rfl := Option.some.inj H
       obtain ⟨b, c⟩ : 0 ≤ (a : Int) ∧ a < (l0.length : Int) := pq_
       obtain ⟨i, q, t, u⟩ := at_T99 B.out a b c
       cases q
       replace b := eq_true b; replace c := eq_true c
       obtain ⟨d, g⟩ : 0 ≤ (a : Int) ∧ a < (p.length : Int) := pq_
       obtain ⟨j, s, v, x⟩ := at_T99 D.out a d g
       cases s
       replace d := eq_true d; replace g := eq_true g
       obtain ⟨l, m⟩ : 0 ≤ (a : Int) ∧ a < (l0.length : Int) := pq_
       obtain ⟨y, F, R, S⟩ := at_T99 B.out a l m
       obtain rfl : i = y := (by injection F)
       replace l := eq_true l; replace m := eq_true m
       obtain ⟨n, o⟩ : 0 ≤ (a : Int) ∧ a < (p.length : Int) := pq_
       obtain ⟨z, G, T, U⟩ := at_T99 D.out a n o
       obtain rfl : j = z := (by injection G)
       replace n := eq_true n; replace o := eq_true o
       obtain ⟨I, J⟩ : 0 ≤ (a : Int) ∧ a < (l0.length : Int) := pq_
       obtain ⟨W, ea, ja, ka⟩ := at_T99 B.out a I J
       obtain rfl : i = W := (by injection ea)
       replace I := eq_true I; replace J := eq_true J
       obtain ⟨K, L⟩ : 0 ≤ (a : Int) ∧ a < (p.length : Int) := pq_
       obtain ⟨X, fa, la, ma⟩ := at_T99 D.out a K L
       obtain rfl : j = X := (by injection fa)
       replace K := eq_true K; replace L := eq_true L
       go_wp2
       repeat (go_quiet (fail); try go_wp2)
       go_ret
       exact ⟨by first | rfl | (simp; done) | (simp [*]; done), by repeat (first | exact Drawn0.refl _ | apply Drawn0.step)⟩
      have wa : (((rd_T99 l0 a).f0).toList == ((rd_T99 p a).f0).toList) = false := beq_eq_false_iff_ne.mpr c9
      have xa : (((rd_T99 l0 a).f0).toList != ((rd_T99 p a).f0).toList) = true := bne_iff_ne.mpr c9
      obtain rfl := Option.some.inj H
      obtain ⟨b, c⟩ : 0 ≤ (a : Int) ∧ a < (l0.length : Int) := pq_
      obtain ⟨i, q, t, u⟩ := at_T99 B.out a b c
      cases q
      replace b := eq_true b; replace c := eq_true c
      obtain ⟨d, g⟩ : 0 ≤ (a : Int) ∧ a < (p.length : Int) := pq_
      obtain ⟨j, s, v, x⟩ := at_T99 D.out a d g
      cases s
      replace d := eq_true d; replace g := eq_true g
      obtain ⟨M, N⟩ : 0 ≤ (a : Int) ∧ a < (l0.length : Int) := pq_
      obtain ⟨Y, ga, na, oa⟩ := at_T99 B.out a M N
      obtain rfl : i = Y := (by injection ga)
      replace M := eq_true M; replace N := eq_true N
      obtain ⟨O, P⟩ : 0 ≤ (a : Int) ∧ a < (p.length : Int) := pq_
      obtain ⟨Z, ha, pa, qa⟩ := at_T99 D.out a O P
      obtain rfl : j = Z := (by injection ha)
      replace O := eq_true O; replace P := eq_true P
      go_wp2
      repeat (go_quiet (fail); try go_wp2)
      go_ret
      exact ⟨by first | rfl | (simp; done) | (simp [*]; done), by repeat (first | exact Drawn0.refl _ | apply Drawn0.step)⟩
     obtain rfl := Option.some.inj H
     go_wp2
     repeat (go_quiet (fail); try go_wp2)
     go_ret
     exact ⟨by first | rfl | (simp; done) | (simp [*]; done), by repeat (first | exact Drawn0.refl _ | apply Drawn0.step)⟩
def impl_AlarmsIn.l0 : Nat → List (S29) → List (S80) → Int → Int → Option ((List (S29)))
 | 0, _, _, _, _ => none
 | k + 1, x3, x7, x8, x9 => if x9 < x8 then (if 0 ≤ x9 then (if x9 < (x7.length : Int) then ((impl_copyAlarms.f k ((rd_T80 x7 x9).f1)).bind fun t1090 => (if x3.length + t1090.length < 2513169434916 then (impl_AlarmsIn.l0 k (x3 ++ t1090) x7 x8 (wrap64 (x9 + 1))) else (none))) else (none)) else (none)) else (some x3)
def impl_AlarmsIn.f (k : Nat) (a0_0 : Int) (a0_1 : Int) (l0_2 : List (S80)) : Option ((List (S29))) := impl_AlarmsIn.l0 k ([] : List (S29)) l0_2 (l0_2.length : Int) 0
theorem impl_AlarmsIn.calls (k : Nat) (B : Int) (D : Int) (E : Option Addr) (F : Nat) (a : List (S80)) (r : List (S29)) (w : World) (L : Kd.C k80 w E a.length a) (M : a.length ≤ F) (h : impl_AlarmsIn.f k B D a = some r) :
  Calls Tryz.prog 25 #[.agg #[.int .i64 B, .int .i64 D, .slice E a.length F]] w fun e w' => ∃ v0_ : Value, e = .returned (v0_) ∧ Kd.S k29 29 w' w.heap.size (fun _ => True) v0_ r ∧ Below w.heap.size w w' := by
 have hu26 := Tryz.underlying26
 have hu80 := Tryz.underlying80
 have V := Aside0.mk L
 have ja := Aside0.mk M
 clear L M
 have s := Aside0.mk (Below.refl w.heap.size w)
 have H : (impl_AlarmsIn.l0 k ([] : List (S29)) a (a.length : Int) 0) = some r := h
 clear h
 have H' := Aside0.mk H
 clear H
 go_enter Tryz.func25, Tryz.ntmps25
 go_wp2_with (first | ((with_reducible refine gd_ 1 rfl ?_); refine bv_ 1 #[.int .i64 B, .int .i64 D, .slice E a.length F] 26 ?_; intro O hg w2 t hb; have c := Aside0.mk (t); have P := gq_ hg s; replace s := st_ s hb; have fa := Ge_.mk P.out; clear hb t hg; obtain ⟨ua, va, wa, xa, ya, za⟩ := bc3_ c.out))
 go_loopg [3, 9] k (fun kq v3 v9 w' => ∃ (u : List (S29)) (d : Int), v9 = .int .i64 d ∧ Aside0 (impl_AlarmsIn.l0 kq u a (a.length : Int) d = some r) ∧ Aside0 (kq ≤ k) ∧ Aside0 (Kd.S k29 29 w' w.heap.size (fun _ => True) v3 u) ∧ Aside0 (w'.heap[O]? = some (.cells #[.int .i64 B, .int .i64 D, (.slice E a.length F)] 26 (0, 0))) ∧ Aside0 (Below w.heap.size w w'))
 case atStart => exact ⟨(([] : List (S29))), (0), rs_, H', ⟨Nat.le_refl _⟩, ⟨ni_⟩, ⟨bq_ c.out⟩, ⟨hs_ s.out⟩⟩
 case round =>
  clear H'
  obtain ⟨u, d, rfl, HA, Z, j, c, s⟩ := hrel
  cases gk with
  | zero => exact absurd HA.out (by simp [impl_AlarmsIn.l0])
  | succ k1 =>
   have H := HA.out
   clear HA
   simp only [impl_AlarmsIn.l0] at H
   replace H := ie_ H; rcases H with ⟨c4, H⟩ | ⟨c4, H⟩
   ·
    have ba := decide_eq_true c4
    clear c4
    replace H := id_ H; obtain ⟨Aa, H⟩ := H
    replace H := id_ H; obtain ⟨Ba, H⟩ := H
    replace H := bi_ H; obtain ⟨y, A7, H⟩ := H
    replace H := im_ H; obtain ⟨ca, H⟩ := H
    obtain ⟨N, hy_⟩ : ∃ y_ : List (S29), y_ = (u ++ y) := ⟨_, rfl⟩
    replace H : (impl_AlarmsIn.l0 k1 N a (a.length : Int) (wrap64 (d + 1))) = some r := hm_
    have Q := Aside0.mk hy_; clear hy_
    have H' := Aside0.mk H
    clear H
    obtain ⟨z, A⟩ : 0 ≤ (d : Int) ∧ d < (a.length : Int) := pq_
    obtain ⟨ga, v, x, W, i, l, m, n⟩ := at_T80 V.out d z A
    cases W
    replace i := c2_ s i l; clear l; obtain ⟨i, l⟩ := i
    have J := Aside0.mk n
    have K := Aside0.mk m
    clear n m
    replace z := eq_true z; replace A := eq_true A
    go_wp2_with (first | ((with_reducible refine gd_ 5 rfl ?_); refine bv_ 5 #[.int .i64 0, .slice none 0 0] 80 ?_; intro ha hg w9 t hb; replace j := sb_ j hb; have g := Aside0.mk (t); have R := gq_ hg s; replace s := st_ s hb; have ia := Ge_.mk R.out; obtain ⟨o, p, c⟩ := nb_ c hg hb; clear hb t hg; have ma := p.out; have na := o.out; obtain ⟨oa, pa, qa, ra⟩ := bc2_ g.out) | ((with_reducible refine gate_callee (f := 81) rfl ?_); refine gl_ (some 16) Tryz.func81 #[.slice v ((rd_T80 a d).f1).length x] ?_; (with_reducible refine (impl_copyAlarms.calls k1 _ _ ((rd_T80 a d).f1) y _ ?side1 ?side2 A7.out).mono ?_); (case side1 => exact Kd.C_below J.out (hs_ s.out)); (case side2 => exact K.out); rintro e Ha ⟨sa, rfl, X, hb⟩; refine ⟨_, rfl, ?_⟩; obtain ⟨da, G⟩ := Kd.S_name X; replace j := su_ G (sy_ j.out g.out) hb; have q := sg_ G X s; replace c := bk2_ c hb; replace g := by_ g #[.int .i64 ((rd_T80 a d).f0), .slice v ((rd_T80 a d).f1).length x] hb; replace s := st_ s hb; (try clear hb); (try clear hk); (try clear X); obtain ⟨Ca, Da, ea⟩ := Kd.S_slice q.out; subst ea; obtain ⟨Y, T, I⟩ := Kd.S_fp ((Kd.S_mono q.out (fun k_ hk => (⟨hk, fun ez_ => Nat.lt_irrefl _ (Nat.lt_of_lt_of_le ((Kd.S_R j.out).1 _ ez_.symm).2 hk.2)⟩ : _ ∧ some k_ ≠ (u3 : Value).ownBlock))))) | ((with_reducible refine gate_builtin (b := .append) (xs := #[.tmp 13, .tmp 16]) rfl ?_); at_builtin; refine Kd.S_append_rows k29 (w0 := w) w.heap.size rfl (.tmp 13) (.tmp 16) 40 29 (.agg #[(.slice none 0 0), (.int .i64 0), (.int .i64 0), (.string ⟨#[]⟩)]) 56 rfl Tryz.underlying40 info29 rfl (by decide) (by omega) u3 u y _ _ _ (fun _ => True) Y rfl rfl ?aR (fun k_ hk_ => ⟨trivial, (I k_ hk_).1.2⟩) ?aF ?aO ?aB ?aS ?aL ?_; (case aR => exact T); (case aB => exact (hs_ s.out)); (case aF => exact (fun _ _ => trivial)); (case aO => exact (Kd.S_mono (sp_ j.out) (fun k_ hk => ⟨trivial, fun e_ => (fun ez_ => Nat.lt_irrefl _ (Nat.lt_of_lt_of_le hk.2 (I _ ez_).1.1.2)) e_⟩))); (case aS => exact (below_size (hs_ s.out))); (case aL => have := ca.out; omega); intro ta Ja ho hb hg hat; rw [← Q.out] at ho; replace c := Aside0.mk (blk_grown (bq_ c.out) hg (Kd.S_ne j.out c.out (by decide))); replace g := Aside0.mk (blk_grown (bq_ g.out) hg (Kd.S_ne j.out g.out (by decide))); replace s := Aside0.mk (hb); have U := Aside0.mk (ho); clear j q; clear ho hb hg hat))
    go_roundg k1
    case measure => have := Z.out; omega
    case rel => exact ⟨(N), (wrap64 (d + 1)), rs_, H', ⟨by have := Z.out; omega⟩, ⟨sp_ U.out⟩, ⟨bq_ c.out⟩, ⟨hs_ s.out⟩⟩
   have ba : decide (d < (a.length : Int)) = false := decide_eq_false c4
   clear c4
   obtain rfl := Option.some.inj H
   go_wp2
   go_ret
   exact ⟨_, rr_, sp_ j.out, hs_ s.out⟩
end Go.Proofs.YtanfohlpkppeiaaGreat.Print
end
section
namespace Go.Proofs.YtanfohlpkppeiaaGreat.Stable
open Go.Sort
variable {α : Type} [Inhabited α]

theorem ext_get2 {a b : Array α} (hs : a.size = b.size) (h : ∀ t, t < a.size → a[t]! = b[t]!) : a = b :=
  Array.ext hs fun t h1 h2 => by have := h t h1; rwa [getElem!_pos a t h1, getElem!_pos b t h2] at this

def ri (a m b t : Nat) : Nat := if a ≤ t ∧ t < a + (b - m) then t - a + m else if a + (b - m) ≤ t ∧ t < b then t - (b - m) else t
def rot (d : Array α) (a m b : Nat) : Array α := (Array.range d.size).map fun t => d[ri a m b t]!
@[simp] theorem size_rot (d : Array α) (a m b : Nat) : (rot d a m b).size = d.size := by simp [rot]
theorem get_rot (d : Array α) (a m b t : Nat) (h : t < d.size) : (rot d a m b)[t]! = d[ri a m b t]! := by simp [rot, h]
theorem get_rot_out (d : Array α) (a m b t : Nat) (ham : a ≤ m) (hmb : m ≤ b) (h : t < a ∨ b ≤ t) : (rot d a m b)[t]! = d[t]! := by
  by_cases ht : t < d.size
  · rw [get_rot d a m b t ht]; unfold ri; rw [if_neg (by omega), if_neg (by omega)]
  · rw [getElem!_neg _ t (by simpa using ht), getElem!_neg d t ht]

def swr (d : Array α) (a b : Nat) : Nat → Array α
  | 0 => d
  | n + 1 => swp (swr d a b n) (a + n) (b + n)
@[simp] theorem size_swr (d : Array α) (a b : Nat) : ∀ n, (swr d a b n).size = d.size
  | 0 => rfl
  | n + 1 => by rw [swr, size_swp, size_swr d a b n]
theorem get_swr (d : Array α) (a b t : Nat) : ∀ n, a + n ≤ b → b + n ≤ d.size → (swr d a b n)[t]! = if a ≤ t ∧ t < a + n then d[t - a + b]! else if b ≤ t ∧ t < b + n then d[t - b + a]! else d[t]!
  | 0, _, _ => by rw [swr, if_neg (by omega), if_neg (by omega)]
  | n + 1, h1, h2 => by
    rw [swr, swp_get _ (by simp; omega) (by simp; omega), get_swr d a b (a + n) n (by omega) (by omega), get_swr d a b (b + n) n (by omega) (by omega), get_swr d a b t n (by omega) (by omega)]
    rw [if_neg (show ¬ (a ≤ a + n ∧ a + n < a + n) by omega), if_neg (show ¬ (b ≤ a + n ∧ a + n < b + n) by omega), if_neg (show ¬ (a ≤ b + n ∧ b + n < a + n) by omega), if_neg (show ¬ (b ≤ b + n ∧ b + n < b + n) by omega)]
    by_cases c1 : t = b + n
    · subst c1
      rw [if_pos rfl, if_neg (show ¬ (a ≤ b + n ∧ b + n < a + (n + 1)) by omega), if_pos (show b ≤ b + n ∧ b + n < b + (n + 1) by omega)]
      congr 1; omega
    · rw [if_neg c1]
      by_cases c2 : t = a + n
      · subst c2
        rw [if_pos rfl, if_pos (show a ≤ a + n ∧ a + n < a + (n + 1) by omega)]
        congr 1; omega
      · rw [if_neg c2]
        by_cases c3 : a ≤ t ∧ t < a + n
        · rw [if_pos c3, if_pos (show a ≤ t ∧ t < a + (n + 1) by omega)]
        · rw [if_neg c3, if_neg (show ¬ (a ≤ t ∧ t < a + (n + 1)) by omega)]
          by_cases c4 : b ≤ t ∧ t < b + n
          · rw [if_pos c4, if_pos (show b ≤ t ∧ t < b + (n + 1) by omega)]
          · rw [if_neg c4, if_neg (show ¬ (b ≤ t ∧ t < b + (n + 1)) by omega)]

def si (a b n t : Nat) : Nat := if a ≤ t ∧ t < a + n then t - a + b else if b ≤ t ∧ t < b + n then t - b + a else t
theorem get_swr' (d : Array α) (a b t n : Nat) (h1 : a + n ≤ b) (h2 : b + n ≤ d.size) : (swr d a b n)[t]! = d[si a b n t]! := by
  rw [get_swr d a b t n h1 h2]; unfold si
  split
  · rfl
  · split <;> rfl
theorem swr_rot_gt (d : Array α) (m i j : Nat) (hj : 0 < j) (hij : j < i) (him : i ≤ m) (hs : m + j ≤ d.size) : rot (swr d (m - i) m j) (m - (i - j)) m (m + j) = rot d (m - i) m (m + j) := by
  refine ext_get2 (by simp) fun t ht => ?_
  simp only [size_rot, size_swr] at ht
  rw [get_rot _ _ _ _ t (by simpa using ht), get_rot _ _ _ _ t ht, get_swr' d _ _ _ j (by omega) hs]
  congr 1; unfold si ri
  (repeat' split) <;> omega

theorem swr_rot_lt (d : Array α) (m i j : Nat) (hi : 0 < i) (hij : i < j) (him : i ≤ m) (hs : m + j ≤ d.size) : rot (swr d (m - i) (m + j - i) i) (m - i) m (m + (j - i)) = rot d (m - i) m (m + j) := by
  refine ext_get2 (by simp) fun t ht => ?_
  simp only [size_rot, size_swr] at ht
  rw [get_rot _ _ _ _ t (by simpa using ht), get_rot _ _ _ _ t ht, get_swr' d _ _ _ i (by omega) (by omega)]
  congr 1; unfold si ri
  (repeat' split) <;> omega

theorem swr_rot_eq (d : Array α) (m i : Nat) (him : i ≤ m) (hs : m + i ≤ d.size) : swr d (m - i) m i = rot d (m - i) m (m + i) := by
  refine ext_get2 (by simp) fun t ht => ?_
  simp only [size_swr] at ht
  rw [get_rot _ _ _ _ t ht, get_swr' d _ _ _ i (by omega) hs]
  congr 1; unfold si ri
  (repeat' split) <;> omega

theorem rot_self (d : Array α) (a m : Nat) : rot d a m m = d := by
  refine ext_get2 (by simp) fun t ht => ?_
  simp only [size_rot] at ht
  rw [get_rot _ _ _ _ t ht]; unfold ri
  rw [if_neg (by omega)]
  split
  · congr 1; omega
  · rfl
theorem rot_self2 (d : Array α) (m b : Nat) : rot d m m b = d := by
  refine ext_get2 (by simp) fun t ht => ?_
  simp only [size_rot] at ht
  rw [get_rot _ _ _ _ t ht]; unfold ri
  split
  · congr 1; omega
  · rw [if_neg (by omega)]
theorem rot_up (d : Array α) (a k : Nat) (hak : a ≤ k) (hk : k + 1 < d.size) : swp (rot d a (a + 1) (k + 1)) k (k + 1) = rot d a (a + 1) (k + 2) := by
  refine ext_get2 (by simp [size_swp]) fun t ht => ?_
  simp only [size_swp, size_rot] at ht
  rw [swp_get _ (by simp; omega) (by simp; omega), get_rot _ _ _ _ _ (by omega), get_rot _ _ _ _ _ hk, get_rot _ _ _ _ t ht, get_rot _ _ _ _ t ht]
  unfold ri
  by_cases c1 : t = k + 1
  · subst c1; rw [if_pos rfl]; congr 1; repeat' split
    all_goals omega
  · rw [if_neg c1]
    by_cases c2 : t = k
    · subst c2; rw [if_pos rfl]; congr 1; repeat' split
      all_goals omega
    · rw [if_neg c2]; congr 1; repeat' split
      all_goals omega
theorem rot_down (d : Array α) (k m : Nat) (hk : 0 < k) (hkm : k ≤ m) (hm : m < d.size) : swp (rot d k m (m + 1)) k (k - 1) = rot d (k - 1) m (m + 1) := by
  refine ext_get2 (by simp [size_swp]) fun t ht => ?_
  simp only [size_swp, size_rot] at ht
  rw [swp_get _ (by simp; omega) (by simp; omega), get_rot _ _ _ _ _ (by omega), get_rot _ _ _ _ _ (by omega), get_rot _ _ _ _ t ht, get_rot _ _ _ _ t ht]
  unfold ri
  by_cases c1 : t = k - 1
  · subst c1; rw [if_pos rfl]; congr 1; repeat' split
    all_goals omega
  · rw [if_neg c1]
    by_cases c2 : t = k
    · subst c2; rw [if_pos rfl]; congr 1; repeat' split
      all_goals omega
    · rw [if_neg c2]; congr 1; repeat' split
      all_goals omega

def bs (q : Nat → Bool) (i j : Nat) : Nat := if i < j then (if q ((i + j) / 2) then bs q ((i + j) / 2 + 1) j else bs q i ((i + j) / 2)) else i
termination_by j - i
decreasing_by all_goals omega
theorem bs_spec (q : Nat → Bool) (I J : Nat) (hq : ∀ h k, I ≤ h → h < k → k < J → q k = true → q h = true) : ∀ (n i j : Nat), j - i ≤ n → I ≤ i → i ≤ j → j ≤ J → (∀ k, I ≤ k → k < i → q k = true) → (∀ k, j ≤ k → k < J → q k = false) →
    i ≤ bs q i j ∧ bs q i j ≤ j ∧ (∀ k, I ≤ k → k < bs q i j → q k = true) ∧ (∀ k, bs q i j ≤ k → k < J → q k = false)
  | n, i, j, hn, hI, hij, hJ, h1, h2 => by
    rw [bs]
    split
    · rename_i hlt
      cases n with
      | zero => omega
      | succ n =>
        split
        · rename_i hh
          have r := bs_spec q I J hq n ((i + j) / 2 + 1) j (by omega) (by omega) (by omega) hJ (fun k a b => by
            by_cases e : k = (i + j) / 2
            · rw [e]; exact hh
            · exact hq k ((i + j) / 2) a (by omega) (by omega) hh) h2
          exact ⟨by omega, r.2.1, r.2.2⟩
        · rename_i hh
          have hh : q ((i + j) / 2) = false := by simpa using hh
          have r := bs_spec q I J hq n i ((i + j) / 2) (by omega) hI (by omega) (by omega) h1 (fun k a b => by
            by_cases e : k = (i + j) / 2
            · rw [e]; exact hh
            · cases hk : q k with
              | false => rfl
              | true => rw [hq ((i + j) / 2) k (by omega) (by omega) b hk] at hh; exact absurd hh (by simp))
          exact ⟨r.1, by omega, r.2.2⟩
    · obtain rfl : i = j := by omega
      exact ⟨Nat.le_refl _, Nat.le_refl _, h1, h2⟩
theorem bs_of (q : Nat → Bool) (I J : Nat) (hIJ : I ≤ J) (hq : ∀ h k, I ≤ h → h < k → k < J → q k = true → q h = true) :
    I ≤ bs q I J ∧ bs q I J ≤ J ∧ (∀ k, I ≤ k → k < bs q I J → q k = true) ∧ (∀ k, bs q I J ≤ k → k < J → q k = false) :=
  bs_spec q I J hq (J - I) I J (Nat.le_refl _) (Nat.le_refl _) hIJ (Nat.le_refl _) (fun _ _ _ => by omega) (fun _ _ _ => by omega)
section
variable (lt : α → α → Bool)
def sm : Nat → Array α → Nat → Nat → Nat → Array α
  | 0, d, _, _, _ => d
  | f + 1, d, a, m, b =>
    if m - a = 1 then rot d a m (bs (fun h => lt d[h]! d[a]!) m b)
    else if b - m = 1 then rot d (bs (fun h => !lt d[m]! d[h]!) a m) m b
    else
      let mid := (a + b) / 2
      let n := mid + m
      let s := bs (fun c => !lt d[n - 1 - c]! d[c]!) (if mid < m then n - b else a) (if mid < m then mid else m)
      let e := n - s
      let d1 := if s < m ∧ m < e then rot d s m e else d
      let d2 := if a < s ∧ s < mid then sm f d1 a s mid else d1
      if mid < e ∧ e < b then sm f d2 mid e b else d2
def stBlocks (n a : Nat) (d : Array α) : Array α := if a + 20 ≤ n then stBlocks n (a + 20) (insertionSort lt d a (a + 20)) else insertionSort lt d a n
termination_by n - a
def stPass (n s a : Nat) (d : Array α) : Array α := if 0 < s ∧ a + 2 * s ≤ n then stPass n s (a + 2 * s) (sm lt (2 * s) d a (a + s) (a + 2 * s)) else if a + s < n then sm lt (n - a) d a (a + s) n else d
termination_by n - a
decreasing_by omega
def stOuter (n s : Nat) (d : Array α) : Array α := if 0 < s ∧ s < n then stOuter n (2 * s) (stPass lt n s 0 d) else d
termination_by n - s
decreasing_by omega
def stable (d : Array α) (n : Nat) : Array α := stOuter lt n 20 (stBlocks lt n 0 d)
end

def eqv (lt : α → α → Bool) (c x : α) : Bool := !lt c x && !lt x c
def St (lt : α → α → Bool) (l l' : List α) : Prop := ∀ c, l'.filter (eqv lt c) = l.filter (eqv lt c)
section
variable {lt : α → α → Bool}
omit [Inhabited α] in
theorem St.refl (l : List α) : St lt l l := fun _ => rfl
omit [Inhabited α] in
theorem St.trans {a b c : List α} (h : St lt a b) (g : St lt b c) : St lt a c := fun x => (g x).trans (h x)
omit [Inhabited α] in
theorem St.append {a b c d : List α} (h : St lt a b) (g : St lt c d) : St lt (a ++ c) (b ++ d) := fun x => by rw [List.filter_append, List.filter_append, h x, g x]
omit [Inhabited α] in
theorem St.mem (hS : SWO lt) {a b : List α} (h : St lt a b) (x : α) : x ∈ b ↔ x ∈ a := by
  have e : eqv lt x x = true := by simp [eqv, hS.irrefl]
  have k : ∀ l : List α, x ∈ l ↔ x ∈ l.filter (eqv lt x) := fun l => by simp [List.mem_filter, e]
  rw [k b, k a, h x]
omit [Inhabited α] in
theorem eqv_no (hS : SWO lt) {c x y : α} (h : lt y x = true) (hx : eqv lt c x = true) : eqv lt c y = false := by
  simp only [eqv, Bool.and_eq_true, Bool.not_eq_true'] at hx
  cases hy : eqv lt c y with
  | false => rfl
  | true =>
    simp only [eqv, Bool.and_eq_true, Bool.not_eq_true'] at hy
    have := hS.ntrans _ _ _ hy.2 hx.1
    rw [h] at this; cases this
omit [Inhabited α] in
theorem St.swap (hS : SWO lt) (u v : List α) (h : ∀ x ∈ u, ∀ y ∈ v, lt y x = true) : St lt (u ++ v) (v ++ u) := fun c => by
  rw [List.filter_append, List.filter_append]
  by_cases hu : u.filter (eqv lt c) = []
  · rw [hu]; simp
  · obtain ⟨x, hx⟩ := List.exists_mem_of_ne_nil _ hu
    rw [List.mem_filter] at hx
    have : v.filter (eqv lt c) = [] := by
      rw [List.filter_eq_nil_iff]
      intro y hy
      rw [eqv_no hS (h x hx.1 y hy) hx.2]; simp
    rw [this]; simp

def seg (d : Array α) (a b : Nat) : List α := (List.range' a (b - a)).map (d[·]!)
theorem seg_append (d : Array α) {a b c : Nat} (h1 : a ≤ b) (h2 : b ≤ c) : seg d a b ++ seg d b c = seg d a c := by
  unfold seg; rw [← List.map_append]
  congr 1
  have h := @List.range'_append_1 a (b - a) (c - b)
  rw [show a + (b - a) = b by omega, show (b - a) + (c - b) = c - a by omega] at h
  exact h
theorem seg_congr {d d' : Array α} {a b : Nat} (h : ∀ t, a ≤ t → t < b → d'[t]! = d[t]!) : seg d' a b = seg d a b := by
  unfold seg
  refine List.map_congr_left fun t ht => ?_
  have := List.mem_range'_1.1 ht
  exact h t this.1 (by omega)
theorem seg_shift {d d' : Array α} {x y n : Nat} (h : ∀ t, t < n → d'[x + t]! = d[y + t]!) : seg d' x (x + n) = seg d y (y + n) := by
  unfold seg
  rw [show x + n - x = n by omega, show y + n - y = n by omega, List.range'_eq_map_range, List.range'_eq_map_range, List.map_map, List.map_map]
  exact List.map_congr_left fun t ht => h t (List.mem_range.1 ht)
theorem mem_seg {d : Array α} {a b : Nat} {x : α} : x ∈ seg d a b ↔ ∃ t, a ≤ t ∧ t < b ∧ d[t]! = x := by
  unfold seg
  rw [List.mem_map]
  constructor
  · rintro ⟨t, ht, rfl⟩; have := List.mem_range'_1.1 ht; exact ⟨t, this.1, by omega, rfl⟩
  · rintro ⟨t, h1, h2, rfl⟩; exact ⟨t, List.mem_range'_1.2 ⟨h1, by omega⟩, rfl⟩
theorem seg_rot (d : Array α) {a m b : Nat} (h1 : a ≤ m) (h2 : m ≤ b) (hb : b ≤ d.size) : seg (rot d a m b) a b = seg d m b ++ seg d a m := by
  rw [← seg_append (rot d a m b) (show a ≤ a + (b - m) by omega) (show a + (b - m) ≤ b by omega)]
  congr 1
  · have := seg_shift (d := d) (d' := rot d a m b) (x := a) (y := m) (n := b - m) (fun t ht => by
      rw [get_rot _ _ _ _ _ (by omega)]; unfold ri; rw [if_pos (by omega)]; congr 1; omega)
    rw [this, show m + (b - m) = b by omega]
  · have := seg_shift (d := d) (d' := rot d a m b) (x := a + (b - m)) (y := a) (n := m - a) (fun t ht => by
      rw [get_rot _ _ _ _ _ (by omega)]; unfold ri; rw [if_neg (by omega), if_pos (by omega)]; congr 1; omega)
    rw [show a + (b - m) + (m - a) = b by omega, show a + (m - a) = m by omega] at this
    exact this

structure Mg (lt : α → α → Bool) (a b : Nat) (d d' : Array α) : Prop where
  size : d'.size = d.size
  out : ∀ t, t < a ∨ b ≤ t → d'[t]! = d[t]!
  sorted : SortedIn lt a b d'
  st : St lt (seg d a b) (seg d' a b)
theorem Mg.id {a b : Nat} {d : Array α} (h : SortedIn lt a b d) : Mg lt a b d d := ⟨rfl, fun _ _ => rfl, h, St.refl _⟩
theorem Mg.mem (hS : SWO lt) {a b : Nat} {d d' : Array α} (h : Mg lt a b d d') {p : Nat} (h1 : a ≤ p) (h2 : p < b) : ∃ t, a ≤ t ∧ t < b ∧ d[t]! = d'[p]! :=
  mem_seg.1 ((h.st.mem hS _).1 (mem_seg.2 ⟨p, h1, h2, rfl⟩))

theorem St.rot (hS : SWO lt) {d : Array α} {a s m e b : Nat} (h1 : a ≤ s) (h2 : s ≤ m) (h3 : m ≤ e) (h4 : e ≤ b) (hb : b ≤ d.size) (hc : ∀ i j, s ≤ i → i < m → m ≤ j → j < e → lt d[j]! d[i]! = true) :
    St lt (seg d a b) (seg (rot d s m e) a b) := by
  rw [← seg_append d (show a ≤ s from h1) (show s ≤ b by omega), ← seg_append d (show s ≤ e by omega) h4, ← seg_append d h2 h3,
    ← seg_append (Stable.rot d s m e) (show a ≤ s from h1) (show s ≤ b by omega), ← seg_append (Stable.rot d s m e) (show s ≤ e by omega) h4, seg_rot d h2 h3 (by omega),
    seg_congr (d := d) (d' := Stable.rot d s m e) (a := a) (b := s) (fun t _ ht => get_rot_out _ _ _ _ _ h2 h3 (Or.inl ht)), seg_congr (d := d) (d' := Stable.rot d s m e) (a := e) (b := b) (fun t ht _ => get_rot_out _ _ _ _ _ h2 h3 (Or.inr ht))]
  refine (St.refl _).append ((St.swap hS _ _ ?_).append (St.refl _))
  intro x hx y hy
  obtain ⟨i, i1, i2, rfl⟩ := mem_seg.1 hx
  obtain ⟨j, j1, j2, rfl⟩ := mem_seg.1 hy
  exact hc i j i1 i2 j1 j2

theorem sorted_rot (hS : SWO lt) {d : Array α} {a s m e b : Nat} (h1 : a ≤ s) (h2 : s ≤ m) (h3 : m ≤ e) (h4 : e ≤ b) (hb : b ≤ d.size) (hu : SortedIn lt a m d) (hv : SortedIn lt m b d)
    (hc : ∀ i j, s ≤ i → i < m → m ≤ j → j < e → lt d[j]! d[i]! = true) (g1 : ∀ i j, a ≤ i → i < s → m ≤ j → j < b → lt d[j]! d[i]! = false) (g2 : ∀ i j, s ≤ i → i < m → e ≤ j → j < b → lt d[j]! d[i]! = false) :
    SortedIn lt a b (rot d s m e) := by
  intro p q hp hpq hq
  rw [get_rot _ _ _ _ _ (by omega), get_rot _ _ _ _ _ (by omega)]
  unfold ri
  split
  · split
    · exact hv _ _ (by omega) (by omega) (by omega)
    · split
      · omega
      · exact g1 _ _ (by omega) (by omega) (by omega) (by omega)
  · split
    · split
      · exact hS.asymmA (hc _ _ (by omega) (by omega) (by omega) (by omega))
      · split
        · exact hu _ _ (by omega) (by omega) (by omega)
        · exact hu _ _ (by omega) (by omega) (by omega)
    · split
      · exact hv _ _ (by omega) (by omega) (by omega)
      · split
        · exact g2 _ _ (by omega) (by omega) (by omega) (by omega)
        · by_cases c : q < s
          · exact hu _ _ (by omega) (by omega) (by omega)
          · by_cases c' : p < s
            · exact g1 _ _ (by omega) (by omega) (by omega) (by omega)
            · exact hv _ _ (by omega) (by omega) (by omega)

theorem SortedIn.le (hS : SWO lt) {a b : Nat} {d : Array α} (h : SortedIn lt a b d) {i j : Nat} (h1 : a ≤ i) (h2 : i ≤ j) (h3 : j < b) : lt d[j]! d[i]! = false := by
  by_cases e : i = j
  · subst e; exact hS.irrefl _
  · exact h i j h1 (by omega) h3

theorem sm_spec (hS : SWO lt) : ∀ (f : Nat) (d : Array α) (a m b : Nat), b - a ≤ f → a < m → m < b → b ≤ d.size → SortedIn lt a m d → SortedIn lt m b d → Mg lt a b d (sm lt f d a m b)
  | 0, _, _, _, _, hf, _, _, _, _, _ => by omega
  | f + 1, d, a, m, b, hf, ham, hmb, hb, hu, hv => by
    rw [sm]
    by_cases c1 : m - a = 1
    · rw [if_pos c1]
      obtain ⟨r1, r2, r3, r4⟩ := bs_of (fun h => lt d[h]! d[a]!) m b (by omega) (fun h k x1 x2 x3 hk => by
        cases hh : lt d[h]! d[a]! with
        | true => rfl
        | false =>
          have := hS.ntrans _ _ _ (hv h k x1 x2 x3) hh
          rw [hk] at this; cases this)
      have hc : ∀ i j, a ≤ i → i < m → m ≤ j → j < bs (fun h => lt d[h]! d[a]!) m b → lt d[j]! d[i]! = true := fun i j x1 x2 x3 x4 => by
        obtain rfl : i = a := by omega
        exact r3 j x3 x4
      refine ⟨by simp, fun t ht => get_rot_out _ _ _ _ _ (by omega) r1 (by omega), sorted_rot hS (Nat.le_refl _) (by omega) r1 r2 hb hu hv hc (fun i j _ _ _ _ => by omega) (fun i j x1 x2 x3 x4 => ?_), St.rot hS (Nat.le_refl _) (by omega) r1 r2 hb hc⟩
      obtain rfl : i = a := by omega
      exact r4 j x3 x4
    · rw [if_neg c1]
      by_cases c2 : b - m = 1
      · rw [if_pos c2]
        obtain ⟨r1, r2, r3, r4⟩ := bs_of (fun h => !lt d[m]! d[h]!) a m (by omega) (fun h k x1 x2 x3 hk => by
          simp only [Bool.not_eq_true'] at hk ⊢
          exact hS.ntrans _ _ _ hk (hu h k x1 x2 x3))
        have hc : ∀ i j, bs (fun h => !lt d[m]! d[h]!) a m ≤ i → i < m → m ≤ j → j < b → lt d[j]! d[i]! = true := fun i j x1 x2 x3 x4 => by
          obtain rfl : j = m := by omega
          have := r4 i x1 x2
          simpa using this
        refine ⟨by simp, fun t ht => get_rot_out _ _ _ _ _ r2 (by omega) (by omega), sorted_rot hS r1 r2 (by omega) (Nat.le_refl _) hb hu hv hc (fun i j x1 x2 x3 x4 => ?_) (fun i j _ _ _ _ => by omega), St.rot hS r1 r2 (by omega) (Nat.le_refl _) hb hc⟩
        obtain rfl : j = m := by omega
        have := r3 i x1 x2
        simpa using this
      · rw [if_neg c2]
        simp only
        generalize hmid : (a + b) / 2 = mid
        generalize hS0 : (if mid < m then mid + m - b else a) = S0
        generalize hR0 : (if mid < m then mid else m) = R0
        have hS0' : mid < m ∧ S0 = mid + m - b ∧ R0 = mid ∨ m ≤ mid ∧ S0 = a ∧ R0 = m := by
          by_cases c : mid < m
          · rw [if_pos c] at hS0 hR0; omega
          · rw [if_neg c] at hS0 hR0; omega
        have hmid' : a + b = 2 * mid ∨ a + b = 2 * mid + 1 := by omega
        clear hS0 hR0 hmid
        obtain ⟨r1, r2, r3, r4⟩ := bs_of (fun c => !lt d[mid + m - 1 - c]! d[c]!) S0 R0 (by omega) (fun h k x1 x2 x3 hk => by
          simp only [Bool.not_eq_true'] at hk ⊢
          exact hS.ntrans _ _ _ (hv (mid + m - 1 - k) (mid + m - 1 - h) (by omega) (by omega) (by omega)) (hS.ntrans _ _ _ hk (hu h k (by omega) x2 (by omega))))
        generalize hs : bs (fun c => !lt d[mid + m - 1 - c]! d[c]!) S0 R0 = s at r1 r2 r3 r4
        clear hs
        generalize he : mid + m - s = e
        have e1 : s ≤ m := by omega
        have e2 : m ≤ e := by omega
        have e3 : e ≤ b := by omega
        have e0 : a ≤ s := by omega
        have hc : ∀ i j, s ≤ i → i < m → m ≤ j → j < e → lt d[j]! d[i]! = true := fun i j x1 x2 x3 x4 => by
          have q1 := r4 s (Nat.le_refl _) (by omega)
          simp only [Bool.not_eq_false'] at q1
          cases h : lt d[j]! d[i]! with
          | true => rfl
          | false =>
            have := hS.ntrans _ _ _ (SortedIn.le hS hv x3 (show j ≤ mid + m - 1 - s by omega) (by omega)) (hS.ntrans _ _ _ h (SortedIn.le hS hu (show a ≤ s from e0) x1 x2))
            rw [q1] at this; cases this
        have g : ∀ i j, a ≤ i → i < s → e ≤ j → j < b → lt d[j]! d[i]! = false := fun i j x1 x2 x3 x4 => by
          have q1 := r3 (s - 1) (by omega) (by omega)
          simp only [Bool.not_eq_true'] at q1
          rw [show mid + m - 1 - (s - 1) = e by omega] at q1
          exact hS.ntrans _ _ _ (SortedIn.le hS hv e2 x3 x4) (hS.ntrans _ _ _ q1 (SortedIn.le hS hu x1 (show i ≤ s - 1 by omega) (by omega)))
        have hd1 : (if s < m ∧ m < e then rot d s m e else d) = rot d s m e := by
          by_cases c : s < m ∧ m < e
          · rw [if_pos c]
          · rw [if_neg c]
            by_cases c' : s = m
            · subst c'; rw [rot_self2]
            · obtain rfl : m = e := by omega
              rw [rot_self]
        rw [hd1]
        have st1 := St.rot hS e0 e1 e2 e3 hb hc
        have sz1 : (rot d s m e).size = d.size := by simp
        have o1 : ∀ t, t < s ∨ e ≤ t → (rot d s m e)[t]! = d[t]! := fun t ht => get_rot_out _ _ _ _ _ e1 e2 ht
        have gr : ∀ t, t < b → (rot d s m e)[t]! = d[ri s m e t]! := fun t ht => get_rot _ _ _ _ _ (by omega)
        have A1 : SortedIn lt a s (rot d s m e) := fun p q x1 x2 x3 => by rw [o1 _ (by omega), o1 _ (by omega)]; exact hu _ _ x1 x2 (by omega)
        have A2 : SortedIn lt s mid (rot d s m e) := fun p q x1 x2 x3 => by
          rw [gr _ (by omega), gr _ (by omega)]; unfold ri; rw [if_pos (by omega), if_pos (by omega)]; exact hv _ _ (by omega) (by omega) (by omega)
        have A3 : SortedIn lt mid e (rot d s m e) := fun p q x1 x2 x3 => by
          rw [gr _ (by omega), gr _ (by omega)]; unfold ri; rw [if_neg (by omega), if_pos (by omega), if_neg (by omega), if_pos (by omega)]; exact hu _ _ (by omega) (by omega) (by omega)
        have A4 : SortedIn lt e b (rot d s m e) := fun p q x1 x2 x3 => by rw [o1 _ (by omega), o1 _ (by omega)]; exact hv _ _ (by omega) x2 x3
        have H : ∀ p q, a ≤ p → p < mid → mid ≤ q → q < b → lt (rot d s m e)[q]! (rot d s m e)[p]! = false := fun p q x1 x2 x3 x4 => by
          rw [gr _ x4, gr _ (by omega)]; unfold ri
          rw [if_neg (show ¬ (s ≤ q ∧ q < s + (e - m)) by omega), if_neg (show ¬ (s + (e - m) ≤ p ∧ p < e) by omega)]
          split
          · split
            · exact hS.asymmA (hc _ _ (by omega) (by omega) (by omega) (by omega))
            · exact hu _ _ (by omega) (by omega) (by omega)
          · split
            · exact hv _ _ (by omega) (by omega) (by omega)
            · exact g _ _ (by omega) (by omega) (by omega) (by omega)
        generalize rot d s m e = d1 at *
        clear gr hd1
        have M2 : Mg lt a mid d1 (if a < s ∧ s < mid then sm lt f d1 a s mid else d1) := by
          by_cases c : a < s ∧ s < mid
          · rw [if_pos c]; exact sm_spec hS f d1 a s mid (by omega) c.1 c.2 (by omega) A1 A2
          · rw [if_neg c]
            refine Mg.id ?_
            by_cases c' : a = s
            · rw [c']; exact A2
            · obtain rfl : s = mid := by omega
              exact A1
        generalize (if a < s ∧ s < mid then sm lt f d1 a s mid else d1) = d2 at M2
        have M3 : Mg lt mid b d2 (if mid < e ∧ e < b then sm lt f d2 mid e b else d2) := by
          have B3 : SortedIn lt mid e d2 := fun p q x1 x2 x3 => by rw [M2.out _ (by omega), M2.out _ (by omega)]; exact A3 _ _ x1 x2 x3
          have B4 : SortedIn lt e b d2 := fun p q x1 x2 x3 => by rw [M2.out _ (by omega), M2.out _ (by omega)]; exact A4 _ _ x1 x2 x3
          by_cases c : mid < e ∧ e < b
          · rw [if_pos c]; exact sm_spec hS f d2 mid e b (by omega) c.1 c.2 (by rw [M2.size]; omega) B3 B4
          · rw [if_neg c]
            refine Mg.id ?_
            by_cases c' : mid = e
            · rw [c']; exact B4
            · obtain rfl : e = b := by omega
              exact B3
        generalize (if mid < e ∧ e < b then sm lt f d2 mid e b else d2) = d3 at M3
        refine ⟨by rw [M3.size, M2.size, sz1], fun t ht => by rw [M3.out _ (by omega), M2.out _ (by omega), o1 _ (by omega)], ?_, ?_⟩
        · intro p q x1 x2 x3
          by_cases c : q < mid
          · rw [M3.out _ (by omega), M3.out _ (by omega)]; exact M2.sorted _ _ x1 x2 c
          · by_cases c' : mid ≤ p
            · exact M3.sorted _ _ c' x2 x3
            · rw [M3.out p (by omega)]
              obtain ⟨p', y1, y2, y3⟩ := M2.mem hS x1 (show p < mid by omega)
              obtain ⟨q', z1, z2, z3⟩ := M3.mem hS (show mid ≤ q by omega) x3
              rw [← y3, ← z3, M2.out q' (by omega)]
              exact H _ _ y1 y2 z1 z2
        · refine st1.trans ?_
          rw [← seg_append d1 (show a ≤ mid by omega) (show mid ≤ b by omega), ← seg_append d3 (show a ≤ mid by omega) (show mid ≤ b by omega)]
          refine St.append ?_ ?_
          · rw [seg_congr (d := d2) (d' := d3) (fun t _ ht => M3.out _ (by omega))]; exact M2.st
          · rw [← seg_congr (d := d1) (d' := d2) (fun t ht _ => M2.out _ (by omega))]; exact M3.st

theorem seg_swp (d : Array α) {a b j : Nat} (haj : a ≤ j) (hjb : j + 2 ≤ b) (hb : b ≤ d.size) (hS : SWO lt) (hl : lt d[j + 1]! d[j]! = true) : St lt (seg d a b) (seg (swp d (j + 1) j) a b) := by
  have e : swp d (j + 1) j = rot d j (j + 1) (j + 2) := by
    have := rot_up d j j (Nat.le_refl _) (by omega)
    rw [← this, rot_self]
    refine ext_get2 (by simp [size_swp]) fun t _ => ?_
    rw [swp_get _ (by omega) (by omega), swp_get _ (by omega) (by omega)]
    by_cases c1 : t = j
    · subst c1; rw [if_pos rfl, if_neg (by omega), if_pos rfl]
    · rw [if_neg c1, if_neg c1]
  rw [e]
  refine St.rot hS haj (by omega) (by omega) hjb hb fun p q x1 x2 x3 x4 => ?_
  obtain rfl : p = j := by omega
  obtain rfl : q = p + 1 := by omega
  exact hl
theorem insInner_st (hS : SWO lt) (a b : Nat) : ∀ (j : Nat) (d : Array α), a ≤ j → j < b → b ≤ d.size → (insInner lt a j d).size = d.size ∧ St lt (seg d a b) (seg (insInner lt a j d) a b)
  | 0, d, _, _, _ => by rw [insInner]; exact ⟨rfl, St.refl _⟩
  | j + 1, d, haj, hjb, hb => by
    rw [insInner]
    split
    · rename_i hc
      simp only [Bool.and_eq_true, decide_eq_true_eq] at hc
      have ih := insInner_st hS a b j (swp d (j + 1) j) (by omega) (by omega) (by rw [size_swp]; exact hb)
      exact ⟨ih.1.trans (size_swp _ _ _), (seg_swp d (by omega) (by omega) hb hS hc.2).trans ih.2⟩
    · exact ⟨rfl, St.refl _⟩
theorem insOuter_st (hS : SWO lt) (a b : Nat) : ∀ (n i : Nat) (d : Array α), b - i = n → a ≤ i → b ≤ d.size → St lt (seg d a b) (seg (insOuter lt a b i d) a b)
  | 0, i, d, hn, _, _ => by rw [insOuter, if_neg (by omega)]; exact St.refl _
  | n + 1, i, d, hn, hai, hb => by
    rw [insOuter, if_pos (by omega)]
    have h1 := insInner_st hS a b i d hai (by omega) hb
    exact h1.2.trans (insOuter_st hS a b n (i + 1) _ (by omega) (by omega) (by rw [h1.1]; exact hb))
theorem ins_Mg (hS : SWO lt) {a b : Nat} (d : Array α) (hab : a ≤ b) (hb : b ≤ d.size) : Mg lt a b d (insertionSort lt d a b) := by
  have h := insertionSort_holds hS d a b hab hb
  exact ⟨h.1.1, fun t ht => h.1.2.1 t ht, h.2, insOuter_st hS a b _ (a + 1) d rfl (by omega) hb⟩

def Blk (lt : α → α → Bool) (s a n : Nat) (d : Array α) : Prop := ∀ k, SortedIn lt (a + k * s) (min (a + k * s + s) n) d
theorem stBlocks_spec (hS : SWO lt) (n : Nat) : ∀ (r a : Nat) (d : Array α), n - a ≤ r → a ≤ n → n ≤ d.size →
    (stBlocks lt n a d).size = d.size ∧ (∀ t, t < a ∨ n ≤ t → (stBlocks lt n a d)[t]! = d[t]!) ∧ St lt (seg d a n) (seg (stBlocks lt n a d) a n) ∧ Blk lt 20 a n (stBlocks lt n a d)
  | r, a, d, hr, han, hn => by
    rw [stBlocks]
    split
    · rename_i h
      cases r with
      | zero => omega
      | succ r =>
        have M := ins_Mg hS d (show a ≤ a + 20 by omega) (show a + 20 ≤ d.size by omega)
        generalize insertionSort lt d a (a + 20) = d1 at M
        obtain ⟨q1, q2, q3, q4⟩ := stBlocks_spec hS n r (a + 20) d1 (by omega) h (by rw [M.size]; exact hn)
        generalize stBlocks lt n (a + 20) d1 = d2 at *
        refine ⟨q1.trans M.size, fun t ht => by rw [q2 t (by omega), M.out t (by omega)], ?_, ?_⟩
        · rw [← seg_append d (show a ≤ a + 20 by omega) h, ← seg_append d2 (show a ≤ a + 20 by omega) h]
          refine St.append ?_ ?_
          · rw [seg_congr (d := d1) (d' := d2) (fun t _ ht => q2 _ (by omega))]; exact M.st
          · rw [← seg_congr (d := d) (d' := d1) (fun t ht _ => M.out _ (by omega))]; exact q3
        · intro k
          cases k with
          | zero =>
            intro i j x1 x2 x3
            rw [q2 _ (by omega), q2 _ (by omega)]
            exact M.sorted i j (by omega) x2 (by omega)
          | succ k =>
            have := q4 k
            rw [show a + (k + 1) * 20 = a + 20 + k * 20 by omega]; exact this
    · have M := ins_Mg hS d han hn
      refine ⟨M.size, M.out, M.st, fun k i j x1 x2 x3 => ?_⟩
      exact M.sorted i j (by omega) x2 (by omega)
theorem stPass_spec (hS : SWO lt) (n s : Nat) (hs : 0 < s) : ∀ (r a : Nat) (d : Array α), n - a ≤ r → a ≤ n → n ≤ d.size → Blk lt s a n d →
    (stPass lt n s a d).size = d.size ∧ (∀ t, t < a ∨ n ≤ t → (stPass lt n s a d)[t]! = d[t]!) ∧ St lt (seg d a n) (seg (stPass lt n s a d) a n) ∧ Blk lt (2 * s) a n (stPass lt n s a d)
  | r, a, d, hr, han, hn, hB => by
    have B0 := hB 0
    have B1 := hB 1
    rw [Nat.zero_mul, Nat.add_zero] at B0
    rw [Nat.one_mul] at B1
    rw [stPass]
    split
    · rename_i h
      cases r with
      | zero => omega
      | succ r =>
        have M := sm_spec hS (2 * s) d a (a + s) (a + 2 * s) (by omega) (by omega) (by omega) (by omega) (fun i j x1 x2 x3 => B0 i j x1 x2 (by omega)) (fun i j x1 x2 x3 => B1 i j x1 x2 (by omega))
        generalize sm lt (2 * s) d a (a + s) (a + 2 * s) = d1 at M
        have hB1 : Blk lt s (a + 2 * s) n d1 := fun k i j x1 x2 x3 => by
          have g := hB (k + 2)
          rw [show a + (k + 2) * s = a + 2 * s + k * s by rw [Nat.add_mul]; omega] at g
          rw [M.out _ (Or.inr (by omega)), M.out _ (Or.inr (by omega))]
          exact g i j x1 x2 x3
        obtain ⟨q1, q2, q3, q4⟩ := stPass_spec hS n s hs r (a + 2 * s) d1 (by omega) h.2 (by rw [M.size]; exact hn) hB1
        generalize stPass lt n s (a + 2 * s) d1 = d2 at *
        refine ⟨q1.trans M.size, fun t ht => by rw [q2 t (by omega), M.out t (by omega)], ?_, ?_⟩
        · rw [← seg_append d (show a ≤ a + 2 * s by omega) h.2, ← seg_append d2 (show a ≤ a + 2 * s by omega) h.2]
          refine St.append ?_ ?_
          · rw [seg_congr (d := d1) (d' := d2) (fun t _ ht => q2 _ (by omega))]; exact M.st
          · rw [← seg_congr (d := d) (d' := d1) (fun t ht _ => M.out _ (by omega))]; exact q3
        · intro k
          cases k with
          | zero =>
            intro i j x1 x2 x3
            rw [q2 _ (by omega), q2 _ (by omega)]
            exact M.sorted i j (by omega) x2 (by omega)
          | succ k =>
            have := q4 k
            rw [show a + (k + 1) * (2 * s) = a + 2 * s + k * (2 * s) by rw [Nat.add_mul]; omega]; exact this
    · rename_i h
      have fin : ∀ d', Mg lt a n d d' → d'.size = d.size ∧ (∀ t, t < a ∨ n ≤ t → d'[t]! = d[t]!) ∧ St lt (seg d a n) (seg d' a n) ∧ Blk lt (2 * s) a n d' := fun d' M =>
        ⟨M.size, M.out, M.st, fun k i j x1 x2 x3 => M.sorted i j (by omega) x2 (by omega)⟩
      split
      · rename_i h2
        exact fin _ (sm_spec hS (n - a) d a (a + s) n (Nat.le_refl _) (by omega) h2 hn (fun i j x1 x2 x3 => B0 i j x1 x2 (by omega)) (fun i j x1 x2 x3 => B1 i j x1 x2 (by omega)))
      · exact fin _ (Mg.id fun i j x1 x2 x3 => B0 i j x1 x2 (by omega))
theorem stOuter_spec (hS : SWO lt) (n : Nat) : ∀ (r s : Nat) (d : Array α), n - s ≤ r → 0 < s → n ≤ d.size → Blk lt s 0 n d →
    (stOuter lt n s d).size = d.size ∧ St lt (seg d 0 n) (seg (stOuter lt n s d) 0 n) ∧ SortedIn lt 0 n (stOuter lt n s d)
  | r, s, d, hr, hs, hn, hB => by
    rw [stOuter]
    split
    · rename_i h
      cases r with
      | zero => omega
      | succ r =>
        obtain ⟨p1, _, p3, p4⟩ := stPass_spec hS n s hs n 0 d (by omega) (Nat.zero_le _) hn hB
        obtain ⟨q1, q2, q3⟩ := stOuter_spec hS n r (2 * s) _ (by omega) (by omega) (by rw [p1]; exact hn) p4
        exact ⟨q1.trans p1, p3.trans q2, q3⟩
    · have := hB 0
      refine ⟨rfl, St.refl _, fun i j x1 x2 x3 => this i j (by omega) x2 (by omega)⟩
theorem stable_spec (hS : SWO lt) (d : Array α) : (stable lt d d.size).size = d.size ∧ St lt d.toList (stable lt d d.size).toList ∧ SortedIn lt 0 d.size (stable lt d d.size) := by
  have all : ∀ x : Array α, seg x 0 x.size = x.toList := fun x => by
    have := extract_toList x 0 x.size (Nat.le_refl _)
    unfold seg; rw [← this]; simp
  obtain ⟨p1, _, p3, p4⟩ := stBlocks_spec hS d.size d.size 0 d (by omega) (Nat.zero_le _) (Nat.le_refl _)
  obtain ⟨q1, q2, q3⟩ := stOuter_spec hS d.size d.size 20 (stBlocks lt d.size 0 d) (by omega) (by omega) (by omega) p4
  refine ⟨q1.trans p1, ?_, q3⟩
  have := p3.trans q2
  rw [all] at this
  have h2 := all (stable lt d d.size)
  rw [show (stable lt d d.size).size = d.size from q1.trans p1] at h2
  rw [← h2]; exact this

omit [Inhabited α] in
theorem St.unique (hS : SWO lt) : ∀ {l l' : List α}, St lt l l' → l.Pairwise (fun x y => lt y x = false) → l'.Pairwise (fun x y => lt y x = false) → l' = l
  | [], [], _, _, _ => rfl
  | [], y :: l', h, _, _ => by have := (h.mem hS y).1 (by simp); simp at this
  | x :: l, [], h, _, _ => by have := (h.mem hS x).2 (by simp); simp at this
  | x :: l, y :: l', h, hl, hl' => by
    have hx : x ∈ y :: l' := (h.mem hS x).2 (by simp)
    have hy : y ∈ x :: l := (h.mem hS y).1 (by simp)
    have hxy : lt x y = false := by
      rcases List.mem_cons.1 hx with e | e
      · rw [e]; exact hS.irrefl _
      · exact (List.pairwise_cons.1 hl').1 x e
    have hyx : lt y x = false := by
      rcases List.mem_cons.1 hy with e | e
      · rw [e]; exact hS.irrefl _
      · exact (List.pairwise_cons.1 hl).1 y e
    have e1 := h x
    rw [List.filter_cons_of_pos (by simp [eqv, hxy, hyx]), List.filter_cons_of_pos (by simp [eqv, hS.irrefl])] at e1
    obtain ⟨rfl, -⟩ := List.cons.inj e1
    have h' : St lt l l' := fun c => by
      have := h c
      rw [List.filter_cons, List.filter_cons] at this
      split at this
      · exact (List.cons.inj this).2
      · exact this
    rw [St.unique hS h' (List.pairwise_cons.1 hl).2 (List.pairwise_cons.1 hl').2]
theorem stable_eq (hS : SWO lt) (d : Array α) (L : List α) (h : St lt d.toList L) (hp : L.Pairwise (fun x y => lt y x = false)) : (stable lt d d.size).toList = L := by
  obtain ⟨h1, h2, h3⟩ := stable_spec hS d
  have h4 : St lt L (stable lt d d.size).toList := fun c => (h2 c).trans (h c).symm
  refine St.unique hS h4 hp ?_
  rw [List.pairwise_iff_getElem]
  intro i j hi hj hij
  simp only [Array.length_toList] at hi hj
  have := h3 i j (Nat.zero_le _) hij (by omega)
  rw [getElem!_pos (stable lt d d.size) j hj, getElem!_pos (stable lt d d.size) i hi] at this
  simpa using this

def put (lt : α → α → Bool) (x : α) (l : List α) : List α := l.takeWhile (fun y => !lt x y) ++ x :: l.dropWhile (fun y => !lt x y)
end
end Go.Proofs.YtanfohlpkppeiaaGreat.Stable
end
