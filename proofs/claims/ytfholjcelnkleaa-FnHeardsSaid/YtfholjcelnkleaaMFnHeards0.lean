import Derived.Test.YtfholjcelnkleaaMFnHeardsV1
import Derived.RowKit
namespace Go.Proofs.Ytfholjcelnkleaa.Print
open Go.RowKit Go.Proofs.YtfholjcelnkleaaV.PrintWords Go.Proofs.YtfholjcelnkleaaV.PrintLast Go.Proofs.YtfholjcelnkleaaV.PrintMore
class Pk_ (W w : World) : Prop where
  sz : w.heap.size ≤ W.heap.size
  at_ : ∀ k, k < w.heap.size → W.heap[k]? = w.heap[k]?
instance pk0_ (w : World) : Pk_ w w := ⟨Nat.le_refl _, fun _ _ => rfl⟩
instance pk1_ (W w : World) [h : Pk_ W w] : Pk_ W.drew w := ⟨h.sz, h.at_⟩
instance pk2_ (W w : World) (n : Nat) [h : Pk_ W w] : Pk_ (W.drewN n) w := ⟨h.sz, h.at_⟩
instance pk3_ (W w : World) (o : Obj) [h : Pk_ W w] : Pk_ (W.alloc o) w := ⟨Nat.le_trans h.sz (Below.size (below_alloc (Below.refl _ W) o)), fun k hk => (Below.heap_alloc W o k (Nat.lt_of_lt_of_le hk h.sz)).trans (h.at_ k hk)⟩
theorem pb_ {W w : World} [hp : Pk_ W w] {g : Nat} {o : Obj} (h : w.heap[g]? = some o) : W.heap[g]? = some o := (hp.at_ g (blk_lt h)).trans h
theorem bb_ {W w w1 : World} [hp : Pk_ W w] {g : Nat} {o : Obj} (h : w.heap[g]? = some o) (hb : Below W.heap.size W w1) : w1.heap[g]? = some o := blk_below (pb_ h) hb
theorem nl_ {W w : World} [hp : Pk_ W w] {g a : Nat} {o : Obj} (h : w.heap[g]? = some o) (hg : a = W.heap.size) : g ≠ a := by rw [hg]; exact Nat.ne_of_lt (blk_lt (pb_ (W := W) h))
theorem ng_ {W w : World} [hp : Pk_ W w] {g a : Nat} {o : Obj} (h : w.heap[g]? = some o) (hg : a = W.heap.size) : a ≠ g := (nl_ h hg).symm
theorem sp_ {α : Type} {d : Kd α} {e base : Nat} {ok : Nat → Prop} {v : Value} {xs : List α} {W w : World} [hp : Pk_ W w] (h : Kd.S d e w base ok v xs) : Kd.S d e W base ok v xs := Kd.S_step h (fun k _ hk => hp.at_ k hk)
theorem rp_ {α : Type} {d : Kd α} {e base : Nat} {ok : Nat → Prop} {v : Value} {xs : List α} {W w : World} [hp : Pk_ W w] (h : Kd.R d e w base ok v xs) : Kd.R d e W base ok v xs := Kd.R_step h (fun k _ hk => hp.at_ k hk)
theorem ba_ {w W : World} (h : Below w.heap.size w W) (o : Obj) : Below w.heap.size w (W.alloc o) := below_alloc h o
theorem bn_ {B : Nat} {w W : World} (h : Below B w W) (n : Nat) : Below B w (W.drewN n) := pw_below_drewN h n
theorem bd_ {base : Nat} {w W : World} (h : Below base w W) : Below base w W.drew := below_drew1 h
theorem ka_ {w : World} {g : Nat} {o : Obj} (h : w.heap[g]? = some o) (o' : Obj) : (w.alloc o').heap[g]? = some o := blk_alloc h o'
theorem kd_ {w : World} {g : Nat} {o : Obj} (h : w.heap[g]? = some o) : w.drew.heap[g]? = some o := blk_drew h
theorem kn_ {w : World} {g : Nat} {o : Obj} (h : w.heap[g]? = some o) (n : Nat) : (w.drewN n).heap[g]? = some o := blk_drewN h n
theorem ca_ {α : Type} {d : Kd α} {w : World} {xs : List α} {A : Option Addr} {n : Nat} (h : d.C w A n xs) (o : Obj) : d.C (w.alloc o) A n xs := Kd.C_alloc h o
theorem cd_ {α : Type} {d : Kd α} {w : World} {xs : List α} {A : Option Addr} {n : Nat} (h : d.C w A n xs) : d.C w.drew A n xs := Kd.C_drew h
theorem cn_ {α : Type} {d : Kd α} {w : World} {xs : List α} {A : Option Addr} {n : Nat} (h : d.C w A n xs) (m : Nat) : d.C (w.drewN m) A n xs := Kd.C_drewN h m
theorem cl_ {w w1 : World} {a : Addr} {v : Value} (hb : Below w.heap.size w w1) (h : w.cell? a = some v) : w1.cell? a = some v := (hb.cell (World.block_lt_of_cell? w _ h)).trans h
theorem mp_ : (∀ (f : Operand → Value) (l : List Operand), l.toArray.map f = (l.map f).toArray) ∧ (∀ (f : Operand → Value) (x : Operand) (l : List Operand), (x :: l).map f = f x :: l.map f) ∧ (∀ f : Operand → Value, ([] : List Operand).map f = []) := ⟨fun _ _ => List.map_toArray .., fun _ _ _ => rfl, fun _ => rfl⟩
abbrev b_ (x y : Nat) : Array Bool := (List.replicate x true ++ List.replicate y false).toArray
theorem fr_ : (∀ (a : Act) (d : Tmp) (v : Value), a.put (some d) v = { a with tmps := a.tmps.setIfInBounds d v }) ∧ (∀ (l : List Value) (i : Nat) (x : Value), l.toArray.setIfInBounds i x = (l.set i x).toArray) ∧
    (∀ (x y : Value) (l : List Value), (x :: l).set 0 y = y :: l) ∧ (∀ (x y : Value) (l : List Value) (n : Nat), (x :: l).set (n + 1) y = x :: l.set n y) ∧ (∀ n : Int, IntKind.i64.wrap n = wrap64 n) ∧ (∀ n : Int, IntKind.i32.wrap n = wrap32 n) :=
  ⟨fun _ _ _ => rfl, fun _ _ _ => by simp, fun _ _ _ => rfl, fun _ _ _ _ => rfl, i64_w, i32_w⟩
abbrev t_ : Bool := true
abbrev f_ : Bool := false
theorem pu_ {P : Program} {md : Region.Mode} {ops : Array Oper} {Q : Exit → Act → World → Prop} {S : World → Prop} {ds : List Nat} (i n : Nat) {oi : Oper} (v : Value) {fuel : Nat} {l : Array Bool} {a : Act} {w : World} (l' : Array Bool) (hi : ops[i]? = some oi) (hN : oi.dst = some n) {T : _} (hT : rtab md ops = T)
    (h2 : ∀ w, (execOp a.eval oi).run P w = .ok (.value v) w) (a' : Act) (ha : a.put (some n) v = a') (h : wpAnyLast P md ops Q S ds fuel l' a' w)
    (hc : anyT T l.toList l'.toList i = true := by kernel_rfl) (hQ : ∀ c a w, Q (.panic c) (a.put oi.dst v) w → Q (.panic c) a w := by exact fun _ _ _ h => h) (h1 : Region.wanted oi (yielded ops a.tmps) = true := by rfl) :
    wpAnyLast P md ops Q S ds (fuel + 1) l a w := pure_ l' hi hN (any_of hT hc) hQ (Or.inl ⟨h1, h2⟩) ha h
theorem pv_ {P : Program} {md : Region.Mode} {ops : Array Oper} {Q : Exit → Act → World → Prop} {S : World → Prop} {ds : List Nat} (i n : Nat) {oi : Oper} {fuel : Nat} {l : Array Bool} {a : Act} {w : World} (a' : Act) (l' : Array Bool) (hi : ops[i]? = some oi) (hN : oi.dst = some n) {T : _} (hT : rtab md ops = T)
    (ha : a.put (some n) undef = a') (h : wpAnyLast P md ops Q S ds fuel l' a' w)
    (hc : anyT T l.toList l'.toList i = true := by kernel_rfl) (hQ : ∀ c a w, Q (.panic c) (a.put oi.dst undef) w → Q (.panic c) a w := by exact fun _ _ _ h => h) (h1 : Region.wanted oi (yielded ops a.tmps) = false := by rfl) :
    wpAnyLast P md ops Q S ds (fuel + 1) l a w := pure_ l' hi hN (any_of hT hc) hQ (Or.inr ⟨h1, rfl⟩) ha h
end Go.Proofs.Ytfholjcelnkleaa.Print
