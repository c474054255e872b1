import Derived.Test.YtanfohlpkppeiaaDoorMFnConfsCardV1
import Derived.RowKit
namespace Go.Proofs.YtanfohlpkppeiaaDoor.Print
open Go.RowKit Go.Proofs.YtanfohlpkppeiaaDoorV.PrintWords Go.Proofs.YtanfohlpkppeiaaDoorV.PrintLast Go.Proofs.YtanfohlpkppeiaaDoorV.PrintMore
class Pk_ (W w : World) : Prop where
  sz : w.heap.size ≤ W.heap.size
  at_ : ∀ k, k < w.heap.size → W.heap[k]? = w.heap[k]?
  bl : ∀ w0 : World, Below w0.heap.size w0 w → Below w0.heap.size w0 W
instance pk0_ (w : World) : Pk_ w w := ⟨Nat.le_refl _, fun _ _ => rfl, fun _ h => h⟩
instance pk1_ (W w : World) [h : Pk_ W w] : Pk_ W.drew w := ⟨h.sz, h.at_, fun w0 hb => below_drew1 (h.bl w0 hb)⟩
instance pk2_ (W w : World) (n : Nat) [h : Pk_ W w] : Pk_ (W.drewN n) w := ⟨h.sz, h.at_, fun w0 hb => pw_below_drewN (h.bl w0 hb) n⟩
instance pk3_ (W w : World) (o : Obj) [h : Pk_ W w] : Pk_ (W.alloc o) w := ⟨Nat.le_trans h.sz (Below.size (below_alloc (Below.refl _ W) o)), fun k hk => (Below.heap_alloc W o k (Nat.lt_of_lt_of_le hk h.sz)).trans (h.at_ k hk), fun w0 hb => below_alloc (h.bl w0 hb) o⟩
theorem cp_ {α : Type} {d : Kd α} {W w : World} {xs : List α} {A : Option Addr} {n : Nat} [hp : Pk_ W w] (h : d.C w A n xs) : d.C W A n xs := Kd.C_below h (hp.bl w (Below.refl _ w))
theorem bs_ {w W : World} {g j : Nat} {v : Value} (hg : Aside0 (w.heap.size ≤ g)) (h : Below w.heap.size w W) : Below w.heap.size w (W.setCell ⟨g, j, none⟩ v) := below_set h hg.out
theorem pb_ {W w : World} [hp : Pk_ W w] {g : Nat} {o : Obj} (h : w.heap[g]? = some o) : W.heap[g]? = some o := (hp.at_ g (blk_lt h)).trans h
theorem bb_ {W w w1 : World} [hp : Pk_ W w] {g : Nat} {o : Obj} (h : w.heap[g]? = some o) (hb : Below W.heap.size W w1) : w1.heap[g]? = some o := blk_below (pb_ h) hb
theorem nl_ {W w : World} [hp : Pk_ W w] {g a : Nat} {o : Obj} (h : w.heap[g]? = some o) (hg : a = W.heap.size) : g ≠ a := by rw [hg]; exact Nat.ne_of_lt (blk_lt (pb_ (W := W) h))
theorem ng_ {W w : World} [hp : Pk_ W w] {g a : Nat} {o : Obj} (h : w.heap[g]? = some o) (hg : a = W.heap.size) : a ≠ g := (nl_ h hg).symm
theorem sp_ {α : Type} {d : Kd α} {e base : Nat} {ok : Nat → Prop} {v : Value} {xs : List α} {W w : World} [hp : Pk_ W w] (h : Kd.S d e w base ok v xs) : Kd.S d e W base ok v xs := Kd.S_step h (fun k _ hk => hp.at_ k hk)
theorem rp_ {α : Type} {d : Kd α} {e base : Nat} {ok : Nat → Prop} {v : Value} {xs : List α} {W w : World} [hp : Pk_ W w] (h : Kd.R d e w base ok v xs) : Kd.R d e W base ok v xs := Kd.R_step h (fun k _ hk => hp.at_ k hk)
theorem ba_ {w W : World} (h : Below w.heap.size w W) (o : Obj) : Below w.heap.size w (W.alloc o) := below_alloc h o
theorem bn_ {B : Nat} {w W : World} (h : Below B w W) (n : Nat) : Below B w (W.drewN n) := pw_below_drewN h n
theorem bd_ {base : Nat} {w W : World} (h : Below base w W) : Below base w W.drew := below_drew1 h
theorem ka_ {w : World} {g : Nat} {o : Obj} (h : w.heap[g]? = some o) (o' : Obj) : (w.alloc o').heap[g]? = some o := blk_alloc h o'
theorem kd_ {w : World} {g : Nat} {o : Obj} (h : w.heap[g]? = some o) : w.drew.heap[g]? = some o := blk_drew h
theorem kn_ {w : World} {g : Nat} {o : Obj} (h : w.heap[g]? = some o) (n : Nat) : (w.drewN n).heap[g]? = some o := blk_drewN h n
theorem ca_ {α : Type} {d : Kd α} {w : World} {xs : List α} {A : Option Addr} {n : Nat} (h : d.C w A n xs) (o : Obj) : d.C (w.alloc o) A n xs := Kd.C_alloc h o
theorem cd_ {α : Type} {d : Kd α} {w : World} {xs : List α} {A : Option Addr} {n : Nat} (h : d.C w A n xs) : d.C w.drew A n xs := Kd.C_drew h
theorem cn_ {α : Type} {d : Kd α} {w : World} {xs : List α} {A : Option Addr} {n : Nat} (h : d.C w A n xs) (m : Nat) : d.C (w.drewN m) A n xs := Kd.C_drewN h m
theorem cl_ {w w1 : World} {a : Addr} {v : Value} (hb : Below w.heap.size w w1) (h : w.cell? a = some v) : w1.cell? a = some v := (hb.cell (World.block_lt_of_cell? w _ h)).trans h
theorem mp_ : (∀ (f : Operand → Value) (l : List Operand), l.toArray.map f = (l.map f).toArray) ∧ (∀ (f : Operand → Value) (x : Operand) (l : List Operand), (x :: l).map f = f x :: l.map f) ∧ (∀ f : Operand → Value, ([] : List Operand).map f = []) := ⟨fun _ _ => List.map_toArray .., fun _ _ _ => rfl, fun _ => rfl⟩
abbrev b_ (x y : Nat) : Array Bool := (List.replicate x true ++ List.replicate y false).toArray
theorem fr_ : (∀ (a : Act) (d : Tmp) (v : Value), a.put (some d) v = { a with tmps := a.tmps.setIfInBounds d v }) ∧ (∀ (l : List Value) (i : Nat) (x : Value), l.toArray.setIfInBounds i x = (l.set i x).toArray) ∧
    (∀ (x y : Value) (l : List Value), (x :: l).set 0 y = y :: l) ∧ (∀ (x y : Value) (l : List Value) (n : Nat), (x :: l).set (n + 1) y = x :: l.set n y) ∧ (∀ n : Int, IntKind.i64.wrap n = wrap64 n) ∧ (∀ n : Int, IntKind.i32.wrap n = wrap32 n) :=
  ⟨fun _ _ _ => rfl, fun _ _ _ => by simp, fun _ _ _ => rfl, fun _ _ _ _ => rfl, i64_w, i32_w⟩
abbrev t_ : Bool := true
abbrev f_ : Bool := false
theorem pv_ {P : Program} {md : Region.Mode} {ops : Array Oper} {Q : Exit → Act → World → Prop} {S : World → Prop} {ds : List Nat} (i n : Nat) {oi : Oper} {fuel : Nat} {l : Array Bool} {a : Act} {w : World} (a' : Act) (l' : Array Bool) (hi : ops[i]? = some oi) (hN : oi.dst = some n) {T : _} (hT : rtab md ops = T)
    (ha : a.put (some n) undef = a') (h : wpAnyLast P md ops Q S ds fuel l' a' w)
    (hc : anyT T l.toList l'.toList i = true := by kernel_rfl) (hQ : ∀ c a w, Q (.panic c) (a.put oi.dst undef) w → Q (.panic c) a w := by exact fun _ _ _ h => h) (h1 : Region.wanted oi (yielded ops a.tmps) = false := by rfl) :
    wpAnyLast P md ops Q S ds (fuel + 1) l a w := pure_ l' hi hN (any_of hT hc) hQ (Or.inr ⟨h1, rfl⟩) ha h
theorem bc2_ {w : World} {g : Nat} {t : TypeId} {v0 v1 : Value} (h : w.heap[g]? = some (.cells #[v0, v1] t (0, 0))) : w.cell? ⟨g, 0, none⟩ = some v0 ∧ w.cell? ⟨g, 1, none⟩ = some v1 ∧ w.frozen? ⟨g, 0, none⟩ = false ∧ w.frozen? ⟨g, 1, none⟩ = false := ⟨(blk_cell h 0).trans rfl, (blk_cell h 1).trans rfl, blk_frozen h 0, blk_frozen h 1⟩
theorem bc4_ {w : World} {g : Nat} {t : TypeId} {v0 v1 v2 v3 : Value} (h : w.heap[g]? = some (.cells #[v0, v1, v2, v3] t (0, 0))) : w.cell? ⟨g, 0, none⟩ = some v0 ∧ w.cell? ⟨g, 1, none⟩ = some v1 ∧ w.cell? ⟨g, 2, none⟩ = some v2 ∧ w.cell? ⟨g, 3, none⟩ = some v3 ∧ w.frozen? ⟨g, 0, none⟩ = false ∧ w.frozen? ⟨g, 1, none⟩ = false ∧ w.frozen? ⟨g, 2, none⟩ = false ∧ w.frozen? ⟨g, 3, none⟩ = false := ⟨(blk_cell h 0).trans rfl, (blk_cell h 1).trans rfl, (blk_cell h 2).trans rfl, (blk_cell h 3).trans rfl, blk_frozen h 0, blk_frozen h 1, blk_frozen h 2, blk_frozen h 3⟩
theorem bc5_ {w : World} {g : Nat} {t : TypeId} {v0 v1 v2 v3 v4 : Value} (h : w.heap[g]? = some (.cells #[v0, v1, v2, v3, v4] t (0, 0))) : w.cell? ⟨g, 0, none⟩ = some v0 ∧ w.cell? ⟨g, 1, none⟩ = some v1 ∧ w.cell? ⟨g, 2, none⟩ = some v2 ∧ w.cell? ⟨g, 3, none⟩ = some v3 ∧ w.cell? ⟨g, 4, none⟩ = some v4 ∧ w.frozen? ⟨g, 0, none⟩ = false ∧ w.frozen? ⟨g, 1, none⟩ = false ∧ w.frozen? ⟨g, 2, none⟩ = false ∧ w.frozen? ⟨g, 3, none⟩ = false ∧ w.frozen? ⟨g, 4, none⟩ = false := ⟨(blk_cell h 0).trans rfl, (blk_cell h 1).trans rfl, (blk_cell h 2).trans rfl, (blk_cell h 3).trans rfl, (blk_cell h 4).trans rfl, blk_frozen h 0, blk_frozen h 1, blk_frozen h 2, blk_frozen h 3, blk_frozen h 4⟩
theorem bc6_ {w : World} {g : Nat} {t : TypeId} {v0 v1 v2 v3 v4 v5 : Value} (h : w.heap[g]? = some (.cells #[v0, v1, v2, v3, v4, v5] t (0, 0))) : w.cell? ⟨g, 0, none⟩ = some v0 ∧ w.cell? ⟨g, 1, none⟩ = some v1 ∧ w.cell? ⟨g, 2, none⟩ = some v2 ∧ w.cell? ⟨g, 3, none⟩ = some v3 ∧ w.cell? ⟨g, 4, none⟩ = some v4 ∧ w.cell? ⟨g, 5, none⟩ = some v5 ∧ w.frozen? ⟨g, 0, none⟩ = false ∧ w.frozen? ⟨g, 1, none⟩ = false ∧ w.frozen? ⟨g, 2, none⟩ = false ∧ w.frozen? ⟨g, 3, none⟩ = false ∧ w.frozen? ⟨g, 4, none⟩ = false ∧ w.frozen? ⟨g, 5, none⟩ = false := ⟨(blk_cell h 0).trans rfl, (blk_cell h 1).trans rfl, (blk_cell h 2).trans rfl, (blk_cell h 3).trans rfl, (blk_cell h 4).trans rfl, (blk_cell h 5).trans rfl, blk_frozen h 0, blk_frozen h 1, blk_frozen h 2, blk_frozen h 3, blk_frozen h 4, blk_frozen h 5⟩
theorem bx_ {w : World} {g : Nat} {t : TypeId} {cs : Array Value} (h : w.heap[g]? = some (.cells cs t (0, 0))) (i : Nat) {v : Value} (e : cs[i]? = some v := by exact rfl) : w.cell? ⟨g, i, none⟩ = some v := (blk_cell h i).trans e
class Ge_ (a b : Nat) : Prop where mk :: (out : a ≤ b)
class Ne_ (a b : Nat) : Prop where mk :: (out : a ≠ b)
class Bw_ (w0 w W : World) : Prop where mk :: (go : Below w0.heap.size w0 w → Below w0.heap.size w0 W)
instance bw0_ (w0 w : World) : Bw_ w0 w w := ⟨fun h => h⟩
instance bw1_ (w0 w W : World) [h : Bw_ w0 w W] : Bw_ w0 w W.drew := ⟨fun k => below_drew1 (h.go k)⟩
instance bw2_ (w0 w W : World) (n : Nat) [h : Bw_ w0 w W] : Bw_ w0 w (W.drewN n) := ⟨fun k => pw_below_drewN (h.go k) n⟩
instance bw3_ (w0 w W : World) (o : Obj) [h : Bw_ w0 w W] : Bw_ w0 w (W.alloc o) := ⟨fun k => below_alloc (h.go k) o⟩
instance bw4_ (w0 w W : World) (g j : Nat) (v : Value) [h : Bw_ w0 w W] [q : Ge_ w0.heap.size g] : Bw_ w0 w (W.setCell ⟨g, j, none⟩ v) := ⟨fun k => below_set (h.go k) q.out⟩
theorem hs_ {w0 w W : World} [hp : Bw_ w0 w W] (h : Below w0.heap.size w0 w) : Below w0.heap.size w0 W := hp.go h
class Sg_ (w W : World) (g : Nat) : Prop where mk :: (go : w.heap.size ≤ W.heap.size ∧ ∀ k, k ≠ g → k < w.heap.size → W.heap[k]? = w.heap[k]?)
instance sg0_ (w : World) (g : Nat) : Sg_ w w g := ⟨Nat.le_refl _, fun _ _ _ => rfl⟩
instance sg1_ (w W : World) (g : Nat) [h : Sg_ w W g] : Sg_ w W.drew g := ⟨h.go⟩
instance sg2_ (w W : World) (g n : Nat) [h : Sg_ w W g] : Sg_ w (W.drewN n) g := ⟨h.go⟩
instance sg3_ (w W : World) (g : Nat) (o : Obj) [h : Sg_ w W g] : Sg_ w (W.alloc o) g := ⟨Nat.le_trans h.go.1 (Below.size (below_alloc (Below.refl _ W) o)), fun k hk hl => (Below.heap_alloc W o k (Nat.lt_of_lt_of_le hl h.go.1)).trans (h.go.2 k hk hl)⟩
instance sg4_ (w W : World) (g j : Nat) (v : Value) [h : Sg_ w W g] : Sg_ w (W.setCell ⟨g, j, none⟩ v) g := ⟨by simpa [World.setCell] using h.go.1, fun k hk hl => (Below.heap_setCell W ⟨g, j, none⟩ v k hk).trans (h.go.2 k hk hl)⟩
theorem sf_ {α : Type} {d : Kd α} {e base : Nat} {ok : Nat → Prop} {v : Value} {xs : List α} {W w : World} (g : Nat) (h : Kd.S d e w base ok v xs) (hk : ∀ k, ok k → k ≠ g) [hp : Sg_ w W g] : Kd.S d e W base ok v xs := Kd.S_step h (fun k ho hl => hp.go.2 k (hk k ho) hl)
theorem rf_ {α : Type} {d : Kd α} {e base : Nat} {ok : Nat → Prop} {v : Value} {xs : List α} {W w : World} (g : Nat) (h : Kd.R d e w base ok v xs) (hk : ∀ k, ok k → k ≠ g) [hp : Sg_ w W g] : Kd.R d e W base ok v xs := Kd.R_step h (fun k ho hl => hp.go.2 k (hk k ho) hl)
class Bq_ (w W : World) (g : Nat) : Prop where mk :: (go : ∀ o, w.heap[g]? = some o → W.heap[g]? = some o)
instance bq0_ (w : World) (g : Nat) : Bq_ w w g := ⟨fun _ h => h⟩
instance bq1_ (w W : World) (g : Nat) [h : Bq_ w W g] : Bq_ w W.drew g := ⟨fun o k => blk_drew (h.go o k)⟩
instance bq2_ (w W : World) (g n : Nat) [h : Bq_ w W g] : Bq_ w (W.drewN n) g := ⟨fun o k => blk_drewN (h.go o k) n⟩
instance bq3_ (w W : World) (g : Nat) (o : Obj) [h : Bq_ w W g] : Bq_ w (W.alloc o) g := ⟨fun o' k => blk_alloc (h.go o' k) o⟩
instance bq4_ (w W : World) (g g' j : Nat) (v : Value) [h : Bq_ w W g] [q : Ne_ g g'] : Bq_ w (W.setCell ⟨g', j, none⟩ v) g := ⟨fun o k => (Below.heap_setCell W ⟨g', j, none⟩ v g q.out).trans (h.go o k)⟩
theorem bq_ {w W : World} {g : Nat} {o : Obj} [hp : Bq_ w W g] (h : w.heap[g]? = some o) : W.heap[g]? = some o := hp.go o h
class Bk_ (w W : World) (g : Nat) : Prop where mk :: (go : ∀ j v, w.cell? ⟨g, j, none⟩ = some v → W.cell? ⟨g, j, none⟩ = some v)
instance bk0_ (w : World) (g : Nat) : Bk_ w w g := ⟨fun _ _ h => h⟩
instance bk4_ (w W : World) (g g' j : Nat) (v : Value) [h : Bk_ w W g] [q : Ne_ g g'] : Bk_ w (W.setCell ⟨g', j, none⟩ v) g := ⟨fun i u k => (cell_far (p := ⟨g', j, none⟩) q.out v).trans (h.go i u k)⟩
class Bc_ (w W : World) (g : Nat) (cs : Array Value) (cs' : outParam (Array Value)) : Prop where mk :: (go : ∀ t, w.heap[g]? = some (.cells cs t (0, 0)) → W.heap[g]? = some (.cells cs' t (0, 0)))
instance bc0_ (w : World) (g : Nat) (cs : Array Value) : Bc_ w w g cs cs := ⟨fun _ h => h⟩
instance bd1_ (w W : World) (g : Nat) (cs cs' : Array Value) [h : Bc_ w W g cs cs'] : Bc_ w W.drew g cs cs' := ⟨fun t k => blk_drew (h.go t k)⟩
instance bd2_ (w W : World) (g n : Nat) (cs cs' : Array Value) [h : Bc_ w W g cs cs'] : Bc_ w (W.drewN n) g cs cs' := ⟨fun t k => blk_drewN (h.go t k) n⟩
instance bd3_ (w W : World) (g : Nat) (o : Obj) (cs cs' : Array Value) [h : Bc_ w W g cs cs'] : Bc_ w (W.alloc o) g cs cs' := ⟨fun t k => blk_alloc (h.go t k) o⟩
instance bd4_ (w W : World) (g g' j : Nat) (v : Value) (cs cs' : Array Value) [h : Bc_ w W g cs cs'] [q : Ne_ g g'] : Bc_ w (W.setCell ⟨g', j, none⟩ v) g cs cs' := ⟨fun t k => (Below.heap_setCell W ⟨g', j, none⟩ v g q.out).trans (h.go t k)⟩
instance bd5_ (w W : World) (g j : Nat) (v : Value) (cs cs' : Array Value) [h : Bc_ w W g cs cs'] : Bc_ w (W.setCell ⟨g, j, none⟩ v) g cs (cs'.setIfInBounds j v) := ⟨fun t k => blk_put (h.go t k) j v rfl⟩
theorem bp_ {w W : World} {g : Nat} {t : TypeId} {cs cs' cs2 : Array Value} [hp : Bc_ w W g cs cs'] (h : w.heap[g]? = some (.cells cs t (0, 0))) (e : cs' = cs2 := by rfl) : W.heap[g]? = some (.cells cs2 t (0, 0)) := e ▸ hp.go t h
theorem bk2_ {w W w1 : World} {g : Nat} {o : Obj} [hp : Bq_ w W g] (h : Aside0 (w.heap[g]? = some o)) (hb : Below W.heap.size W w1) : Aside0 (w1.heap[g]? = some o) := ⟨blk_below (hp.go o h.out) hb⟩
theorem st_ {w0 W w w1 : World} [hp : Bw_ w0 w W] (h : Aside0 (Below w0.heap.size w0 w)) (hb : Below W.heap.size W w1) : Aside0 (Below w0.heap.size w0 w1) := ⟨below_step (hp.go h.out) hb⟩
theorem cg_ {w W : World} {g j : Nat} {v : Value} [hp : Bk_ w W g] (e : w.cell? ⟨g, j, none⟩ = some v) : W.cell? ⟨g, j, none⟩ = some v := hp.go j v e
theorem an_ {A B : Prop} (b : B) (a : A := by first | rfl | (simp [errW_none, errW_some] <;> rfl) | (simp [*, errW_none, errW_some] <;> rfl)) : A ∧ B := ⟨a, b⟩
theorem gw_ {w W : World} {g : Nat} (hg : g = W.heap.size) (h : Below w.heap.size w W) : w.heap.size ≤ g := by rw [hg]; exact h.size
theorem cf_ {W : World} {g g' j i : Nat} {v u : Value} [h : Ne_ g g'] (e : W.cell? ⟨g, j, none⟩ = some v) : (W.setCell ⟨g', i, none⟩ u).cell? ⟨g, j, none⟩ = some v := (cell_far (p := ⟨g', i, none⟩) h.out u).trans e
theorem si_ {A A' : Option Addr} {n n' c c' : Nat} (h : Value.slice A n c = .slice A' n' c') : A' = A ∧ c' = c := by injection h with a _ b; exact ⟨a.symm, b.symm⟩
theorem gd_ {P : Program} {ops : Array Oper} {rest : List Oper} {o : Oper} {a : Act} {Q : Exit → Act → World → Prop} {W : World} (N : Tmp) (_hN : o.dst = some N) (h : wpList P ops Q (o :: rest) a W) : wpList P ops Q (o :: rest) a W := h
theorem bv_ {P : Program} {ops : Array Oper} {rest : List Oper} {o : Oper} {a : Act} {Q : Exit → Act → World → Prop} {W : World} (N : Tmp) (cs : Array Value) (t : TypeId)
    (h : ∀ g, g = W.heap.size → ∀ w1, w1.heap[g]? = some (.cells cs t (0, 0)) → Below W.heap.size W w1 → wpList P ops Q rest (a.put o.dst (.pointer (some ⟨g, 0, none⟩))) w1)
    (hgd : o.guard = none := by rfl) (hd : o.dst = some N := by rfl) (hrun : (execOp a.eval o).run P W = .ok (.value (.pointer (some ⟨W.heap.size, 0, none⟩))) (W.alloc (.cells cs t (0, 0))) := by first | (go_simp; done) | (go_simp; rfl)) :
    wpList P ops Q (o :: rest) a W := box_event hgd hd hrun h
theorem bs1_ {P : Program} {ops : Array Oper} {o : Oper} {a : Act} {Q : Exit → Act → World → Prop} {Kc : Act → World → Prop} {W : World} (N : Tmp) (cs : Array Value) (t : TypeId)
    (h : ∀ g, g = W.heap.size → ∀ w1, w1.heap[g]? = some (.cells cs t (0, 0)) → Below W.heap.size W w1 → Kc (a.put o.dst (.pointer (some ⟨g, 0, none⟩))) w1)
    (hw : Region.wanted o (yielded ops a.tmps) = true := by rfl) (hd : o.dst = some N := by rfl) (hrun : (execOp a.eval o).run P W = .ok (.value (.pointer (some ⟨W.heap.size, 0, none⟩))) (W.alloc (.cells cs t (0, 0))) := by first | (go_simp; done) | (go_simp; rfl)) :
    if Region.wanted o (yielded ops a.tmps) = true then Oper.wp P o a W Kc Q else Kc (a.put o.dst undef) W := box_step hw hd hrun h
theorem gl_ {P : Program} {ops : Array Oper} {Q : Exit → Act → World → Prop} {rest : List Oper} {oi : Oper} {a : Act} {w : World} (N : Option Tmp) {f : FuncId} {fn : Func} {as : Array Operand} {ts : Array TypeId} (hf : P.funcs[f]? = some fn) (args : Array Value)
    (h : Calls P f args w fun e w' => ∃ v, e = .returned v ∧ wpList P ops Q rest (a.put N v) w')
    (hd : oi.dst = N := by rfl) (hg : oi.guard = none := by rfl) (hname : (fn.name == "runtime.NumGoroutine") = false := by kernel_rfl) (hb : fn.body.isSome = true := by rfl)
    (hop : oi.op = .call { callee := .value (.func f), args := as, argTypes := ts } := by rfl) (hargs : as.map a.eval = args := by (try simp only [mp_]); first | done | rfl | (simp only [List.length_drop, List.length_take]; rfl)) : wpList P ops Q (oi :: rest) a w := goesL_ N hd hg hf hname hb args hop hargs h
theorem gs_ {P : Program} {ops : Array Oper} {Q : Exit → Act → World → Prop} {oi : Oper} {N : Option Tmp} {a : Act} {w : World} {K : Act → World → Prop} {f : FuncId} {fn : Func} {as : Array Operand} {ts : Array TypeId} (hf : P.funcs[f]? = some fn) (args : Array Value)
    (h : Calls P f args w fun e w' => ∃ v, e = .returned v ∧ K (a.put N v) w')
    (hname : (fn.name == "runtime.NumGoroutine") = false := by kernel_rfl) (hb : fn.body.isSome = true := by rfl) (hw : Region.wanted oi (yielded ops a.tmps) = true := by rfl) (hN : oi.dst = N := by rfl)
    (hop : oi.op = .call { callee := .value (.func f), args := as, argTypes := ts } := by rfl) (hargs : as.map a.eval = args := by (try simp only [mp_]); first | done | rfl | (simp only [List.length_drop, List.length_take]; rfl)) : if Region.wanted oi (yielded ops a.tmps) = true then Oper.wp P oi a w K Q else K (a.put N undef) w := goes_ hf hname hb args hw hN hop hargs h
theorem pw_ {P : Program} {md : Region.Mode} {ops : Array Oper} {Q : Exit → Act → World → Prop} {S : World → Prop} {ds : List Nat} (i n : Nat) {oi : Oper} {v : Value} {fuel : Nat} {l : Array Bool} {a : Act} {w : World} (l' : Array Bool) (hi : ops[i]? = some oi) (hN : oi.dst = some n) {T : _} (hT : rtab md ops = T)
    {a' : Act} (h : wpAnyLast P md ops Q S ds fuel l' a' w)
    (h2 : ∀ w, (execOp a.eval oi).run P w = .ok (.value v) w := by intro w'; go_simp; with_reducible rfl) (ha : a.put (some n) v = a' := by simp only [fr_]; rfl)
    (hc : anyT T l.toList l'.toList i = true := by kernel_rfl) (hQ : ∀ c a w, Q (.panic c) (a.put oi.dst v) w → Q (.panic c) a w := by exact fun _ _ _ h => h) (h1 : Region.wanted oi (yielded ops a.tmps) = true := by rfl) :
    wpAnyLast P md ops Q S ds (fuel + 1) l a w := pure_ l' hi hN (any_of hT hc) hQ (Or.inl ⟨h1, h2⟩) ha h
class Kq_ (w0 w W : World) (g : Nat) : Prop where mk :: (go : KeepBut w0 w g none → KeepBut w0 W g none)
instance kq0_ (w0 w : World) (g : Nat) : Kq_ w0 w w g := ⟨fun h => h⟩
instance kq1_ (w0 w W : World) (g : Nat) [h : Kq_ w0 w W g] : Kq_ w0 w W.drew g := ⟨fun k => keep_drew (h.go k)⟩
instance kq2_ (w0 w W : World) (g n : Nat) [h : Kq_ w0 w W g] : Kq_ w0 w (W.drewN n) g := ⟨fun k => keep_drewN (h.go k) n⟩
instance kq3_ (w0 w W : World) (g : Nat) (o : Obj) [h : Kq_ w0 w W g] : Kq_ w0 w (W.alloc o) g := ⟨fun k => keep_alloc (h.go k) o⟩
instance kq4_ (w0 w W : World) (g g' j : Nat) (v : Value) [h : Kq_ w0 w W g] [q : Ge_ w0.heap.size g'] : Kq_ w0 w (W.setCell ⟨g', j, none⟩ v) g := ⟨fun k => keep_far (p := ⟨g', j, none⟩) (h.go k) q.out v⟩
theorem ku_ {w0 w W : World} {g : Nat} [hp : Kq_ w0 w W g] (h : KeepBut w0 w g none) : KeepBut w0 W g none := hp.go h
theorem kt_ {w0 w W w1 : World} {g : Nat} [hp : Kq_ w0 w W g] (h : Aside0 (KeepBut w0 w g none)) (hb : Below W.heap.size W w1) : Aside0 (KeepBut w0 w1 g none) := ⟨KeepBut.trans (hp.go h.out) (KeepBut.of_below hb g none) (.inl rfl)⟩
theorem kh_ {w0 w W w1 : World} {g : Nat} [hp : Kq_ w0 w W g] (h : Aside0 (KeepBut w0 w g none)) (hk : KeepBut W w1 g none) : Aside0 (KeepBut w0 w1 g none) := ⟨KeepBut.trans (hp.go h.out) hk (.inl rfl)⟩
theorem ks_ {w0 w W : World} {g : Nat} [hp : Kq_ w0 w W g] (h : Aside0 (KeepBut w0 w g none)) : w0.heap.size ≤ W.heap.size := keep_size (hp.go h.out)
theorem kb_ {w W w1 : World} {g g' : Nat} {o : Obj} [hp : Pk_ W w] [q : Ne_ g' g] (hk : KeepBut W w1 g none) (h : Aside0 (w.heap[g']? = some o)) : Aside0 (w1.heap[g']? = some o) := ⟨KeepBut.blk hk (pb_ h.out) q.out (by simp)⟩
theorem kc_ {w W w1 : World} {g g' : Nat} {t : TypeId} {cs cs' : Array Value} [hp : Bc_ w W g' cs cs'] [q : Ne_ g' g] (hk : KeepBut W w1 g none) (h : Aside0 (w.heap[g']? = some (.cells cs t (0, 0)))) (cs2 : Array Value) (e : cs' = cs2 := by rfl) : Aside0 (w1.heap[g']? = some (.cells cs2 t (0, 0))) := ⟨KeepBut.blk hk (bp_ h.out e) q.out (by simp)⟩
theorem ns_ {a b : Nat} (h : Ne_ a b) : Ne_ b a := ⟨h.out.symm⟩
theorem nk_ {W w : World} [hp : Pk_ W w] {g a : Nat} {o : Obj} (h : Aside0 (w.heap[g]? = some o)) (hg : a = W.heap.size) : Ne_ g a := ⟨nl_ h.out hg⟩
theorem gt_ {a b c : Nat} (h : Aside0 (a ≤ b)) (k : Ge_ b c) : Ge_ a c := ⟨Nat.le_trans h.out k.out⟩
theorem rb_ {α : Type} {d : Kd α} {e base : Nat} {ok : Nat → Prop} {v : Value} {xs : List α} {W w w1 : World} [hp : Pk_ W w] (h : Aside0 (Kd.R d e w base ok v xs)) (hb : Below W.heap.size W w1) : Aside0 (Kd.R d e w1 base ok v xs) := ⟨Kd.R_below (rp_ h.out) hb⟩
theorem sb_ {α : Type} {d : Kd α} {e base : Nat} {ok : Nat → Prop} {v : Value} {xs : List α} {W w w1 : World} [hp : Pk_ W w] (h : Aside0 (Kd.S d e w base ok v xs)) (hb : Below W.heap.size W w1) : Aside0 (Kd.S d e w1 base ok v xs) := ⟨Kd.S_below (sp_ h.out) hb⟩
theorem rl_ {α : Type} {d : Kd α} {e : Nat} {ok : Nat → Prop} {v : Value} {xs : List α} {w0 w W w1 : World} {g : Nat} [hp : Kq_ w0 w W g] (h : Kd.R d e w1 W.heap.size ok v xs) (hk : Aside0 (KeepBut w0 w g none)) : Aside0 (Kd.R d e w1 w0.heap.size ok v xs) := ⟨Kd.R_lower h (ks_ hk)⟩
theorem e2_ {W : World} {g : Nat} {t : TypeId} {x0 x1 : Value} (h : W.heap[g]? = some (.cells #[x0, x1] t (0, 0))) : W.cell? ⟨g, 0, none⟩ = some x0 ∧ W.cell? ⟨g, 1, none⟩ = some x1 := ⟨bx_ h 0, bx_ h 1⟩
theorem f4_ {R : Prop} {W : World} {g : Nat} {t : TypeId} {x0 x1 x2 x3 : Value} (h : W.heap[g]? = some (.cells #[x0, x1, x2, x3] t (0, 0))) (r : R) : W.cell? ⟨g, 0, none⟩ = some x0 ∧ W.cell? ⟨g, 1, none⟩ = some x1 ∧ W.cell? ⟨g, 2, none⟩ = some x2 ∧ W.cell? ⟨g, 3, none⟩ = some x3 ∧ R := ⟨bx_ h 0, bx_ h 1, bx_ h 2, bx_ h 3, r⟩
theorem e4_ {W : World} {g : Nat} {t : TypeId} {x0 x1 x2 x3 : Value} (h : W.heap[g]? = some (.cells #[x0, x1, x2, x3] t (0, 0))) : W.cell? ⟨g, 0, none⟩ = some x0 ∧ W.cell? ⟨g, 1, none⟩ = some x1 ∧ W.cell? ⟨g, 2, none⟩ = some x2 ∧ W.cell? ⟨g, 3, none⟩ = some x3 := ⟨bx_ h 0, bx_ h 1, bx_ h 2, bx_ h 3⟩
theorem f5_ {R : Prop} {W : World} {g : Nat} {t : TypeId} {x0 x1 x2 x3 x4 : Value} (h : W.heap[g]? = some (.cells #[x0, x1, x2, x3, x4] t (0, 0))) (r : R) : W.cell? ⟨g, 0, none⟩ = some x0 ∧ W.cell? ⟨g, 1, none⟩ = some x1 ∧ W.cell? ⟨g, 2, none⟩ = some x2 ∧ W.cell? ⟨g, 3, none⟩ = some x3 ∧ W.cell? ⟨g, 4, none⟩ = some x4 ∧ R := ⟨bx_ h 0, bx_ h 1, bx_ h 2, bx_ h 3, bx_ h 4, r⟩
theorem e5_ {W : World} {g : Nat} {t : TypeId} {x0 x1 x2 x3 x4 : Value} (h : W.heap[g]? = some (.cells #[x0, x1, x2, x3, x4] t (0, 0))) : W.cell? ⟨g, 0, none⟩ = some x0 ∧ W.cell? ⟨g, 1, none⟩ = some x1 ∧ W.cell? ⟨g, 2, none⟩ = some x2 ∧ W.cell? ⟨g, 3, none⟩ = some x3 ∧ W.cell? ⟨g, 4, none⟩ = some x4 := ⟨bx_ h 0, bx_ h 1, bx_ h 2, bx_ h 3, bx_ h 4⟩
theorem f6_ {R : Prop} {W : World} {g : Nat} {t : TypeId} {x0 x1 x2 x3 x4 x5 : Value} (h : W.heap[g]? = some (.cells #[x0, x1, x2, x3, x4, x5] t (0, 0))) (r : R) : W.cell? ⟨g, 0, none⟩ = some x0 ∧ W.cell? ⟨g, 1, none⟩ = some x1 ∧ W.cell? ⟨g, 2, none⟩ = some x2 ∧ W.cell? ⟨g, 3, none⟩ = some x3 ∧ W.cell? ⟨g, 4, none⟩ = some x4 ∧ W.cell? ⟨g, 5, none⟩ = some x5 ∧ R := ⟨bx_ h 0, bx_ h 1, bx_ h 2, bx_ h 3, bx_ h 4, bx_ h 5, r⟩
theorem e6_ {W : World} {g : Nat} {t : TypeId} {x0 x1 x2 x3 x4 x5 : Value} (h : W.heap[g]? = some (.cells #[x0, x1, x2, x3, x4, x5] t (0, 0))) : W.cell? ⟨g, 0, none⟩ = some x0 ∧ W.cell? ⟨g, 1, none⟩ = some x1 ∧ W.cell? ⟨g, 2, none⟩ = some x2 ∧ W.cell? ⟨g, 3, none⟩ = some x3 ∧ W.cell? ⟨g, 4, none⟩ = some x4 ∧ W.cell? ⟨g, 5, none⟩ = some x5 := ⟨bx_ h 0, bx_ h 1, bx_ h 2, bx_ h 3, bx_ h 4, bx_ h 5⟩
end Go.Proofs.YtanfohlpkppeiaaDoor.Print
