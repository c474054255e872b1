import Derived.Test.YtanfohlpkppeiaaDoorProg
import Derived.Below
import Derived.Deep.Draws
import Derived.Deep.AppendLies
import Derived.Maps.AppendAt
import Derived.OwnWalk
import Derived.Laws.BytesArg
import Derived.Laws.MakeOwn
import Derived.Laws.OwnMore
import Derived.Deep.OwnRows
import Derived.Tactics
import Derived.Lib.ConvBytes
import Derived.Laws.Slices
import Derived.WalkKit
import Derived.KernelRfl
import Derived.RowKit3
import Derived.Deep.LoopGhost
import Derived.Deep.QuietTactic
import Derived.BigQuiet
import Derived.WideLaws
import Derived.Deep.DeepCutAuto
import Derived.Deep.CutBlock
import Derived.Deep.RegionHeld3
import Derived.Laws.Rows
import Derived.Lib.AppendStr
import Derived.ArgAppend
import Derived.Laws.IdiomCopy
import Derived.OrdersHeld
import Derived.Laws.BitsLemmas
import Derived.RowKit
import Derived.Test.YtanfohlpkppeiaaDoorMFnConfsCard0
section
namespace Go.Proofs.YtanfohlpkppeiaaDoor.Print
open Go.RowKit Go.Proofs.YtanfohlpkppeiaaDoorV.PrintWords Go.Proofs.YtanfohlpkppeiaaDoorV.PrintLast Go.Proofs.YtanfohlpkppeiaaDoorV.PrintMore
attribute [local go_sem] max2_int min2_int max_two min_two max_three min_three max_four min_four
set_option linter.unusedVariables false
set_option linter.unusedSimpArgs false
set_option maxHeartbeats 8000000
set_option maxRecDepth 100000
def errW : Option Int → Value
 | none => .nilIface
 | some c => .iface 0 (.int .i64 c)
theorem errW_none : errW none = .nilIface := rfl
theorem errW_some (c : Int) : errW (some c) = .iface 0 (.int .i64 c) := rfl

theorem info9 : (Tryd.prog.info? 9).map (fun i => (i.zero, i.size, i.bytes)) = some (some (.string ⟨#[]⟩), 1, 16) := by kernel_rfl
theorem info37 : (Tryd.prog.info? 37).map (fun i => (i.zero, i.size, i.bytes)) = some (some (.agg #[(.slice none 0 0), (.int .i64 0), (.int .i64 0), (.string ⟨#[]⟩)]), 4, 56) := by kernel_rfl
theorem info83 : (Tryd.prog.info? 83).map (fun i => (i.zero, i.size, i.bytes)) = some (some (.agg #[(.string ⟨#[]⟩), (.string ⟨#[]⟩)]), 2, 32) := by kernel_rfl
def Kd.slS {α : Type} (e : Nat) (d : Kd α) : Kd (List α) where
 sz := 1
 E := e :: d.E
 K := (Kd.slice e d).K
 M := fun w base ok xs cs => ∃ v, cs = [v] ∧ Kd.S d e w base ok v xs
 K_len := (Kd.slice e d).K_len
 K_one := (Kd.slice e d).K_one
 K_below := (Kd.slice e d).K_below
 K_of_M := by
  rintro w base ok x cs ⟨v, rfl, h⟩
  obtain ⟨A, c, rfl, hl, hr⟩ := Kd.S_reads h
  exact ⟨A, c, rfl, hl, hr⟩
 M_mono := by
  rintro w base ok ok' x cs hok ⟨v, rfl, h⟩
  exact ⟨v, rfl, Kd.S_mono h hok⟩
 M_bound := by
  rintro w base ok x cs ⟨v, rfl, h⟩
  exact ⟨v, rfl, Kd.S_bound h⟩
 M_move := by
  rintro w w1 base ok x cs hm ⟨v, rfl, h⟩
  exact ⟨v, rfl, Kd.S_move h hm⟩
 M_lower := by
  rintro w base base' ok x cs hb ⟨v, rfl, h⟩
  exact ⟨v, rfl, Kd.S_lower h hb⟩
theorem List.zipIdx_append' {α : Type} (xs ys : List α) : (xs ++ ys).zipIdx = xs.zipIdx ++ ys.zipIdx xs.length := by rw [List.zipIdx_append]; simp
open Classical in
theorem sar_tags {α : Type} {d : Kd α} {e base m c : Nat} {W : World} {ok okp : Nat → Prop} {v : Value} {A : Option Addr} {xs ys : List α} (HO : Kd.S d e W base (fun k => ok k ∧ ¬ okp k) v xs) (HX : Kd.S d e W base okp (.slice A m c) ys) :
  ∃ F : Nat → Nat, (Kd.tag F d).R e W base ok v xs.zipIdx ∧ ReadsRow (fun (p : α × Nat) cs => d.M W base (fun k => okp k ∧ F k = p.2) p.1 cs) d.sz W A m (ys.zipIdx xs.length) ∧ ∀ (p : α × Nat) cs, d.M W base (fun k => okp k ∧ F k = p.2) p.1 cs → (Kd.tag F d).M W base okp p cs := by
 obtain ⟨f, hf⟩ := HO
 obtain ⟨fx, hx⟩ := HX
 refine ⟨fun k => if okp k then fx k + xs.length else f k, Kd.R_mono (Kd.R_tag hf (fun k hk _ => if_neg hk.2)) (fun _ hk => hk.1), ?_, fun p cs h => h⟩
 obtain ⟨A', c', he, hl, hr⟩ := OwnRow.reads hx.2
 injection he with e1 e2 e3
 subst e1
 rw [List.length_zipIdx] at e2
 subst e2
 rw [List.length_zipIdx] at hr
 refine ⟨by rw [List.length_zipIdx], hr.2.1, fun hn => ?_⟩
 obtain ⟨ad, ha, hc⟩ := hr.2.2 hn
 refine ⟨ad, ha, fun j p hj => ?_⟩
 rw [List.getElem?_zipIdx] at hj
 obtain ⟨y, hy, rfl⟩ := Option.map_eq_some_iff.1 hj
 obtain ⟨cs, h1, h2, h3⟩ := hc j (y, j) (Kd.zip_at hy)
 exact ⟨cs, h1, d.M_mono (fun k hk => ⟨hk.1.1, by have h9 : fx k = j := hk.2; show (if okp k then fx k + xs.length else f k) = xs.length + j; rw [if_pos hk.1.1]; omega⟩) h2, h3⟩
theorem Kd.S_append_rows_step {P : Program} {ops : Array Oper} {o : Oper} {a : Act} {Q : Exit → Act → World → Prop} {Kc : Act → World → Prop} {α : Type} (d : Kd α) {w0 W : World} (base : Nat) (hw : Region.wanted o (yielded ops a.tmps) = true) (s x : Operand) (t e : TypeId) (z : Value) (bytes : Nat)
  (ho : o.op = .call { callee := .builtin .append, args := #[s, x], argTypes := #[t, t] })
  (ht : P.underlying t = some (.slice e)) (hinfo : (P.info? e).map (fun i => (i.zero, i.size, i.bytes)) = some (some z, d.sz, bytes)) (hz : z.cells.size = d.sz) (hs0 : 0 < d.sz) (hb0 : 0 < bytes)
  (v : Value) (xs ys : List α) (A : Option Addr) (m c : Nat) (ok okp : Nat → Prop) (hs : a.eval s = v) (hx : a.eval x = .slice A m c)
  (HX : Kd.S d e W base okp (.slice A m c) ys) (hokp : ∀ k, okp k → ok k ∧ some k ≠ v.ownBlock) (hfresh : ∀ k, W.heap.size ≤ k → ok k)
  (HO : Kd.S d e W base (fun k => ok k ∧ ¬ okp k) v xs) (HB : Below base w0 W) (hbase : base ≤ W.heap.size) (hl : (xs.length + ys.length) * bytes ≤ 140737488355328)
  (h : ∀ v1 w1, Kd.S d e w1 base ok v1 (xs ++ ys) → Below base w0 w1 → W.grownBy w1 v.ownBlock → (v1.ownBlock = v.ownBlock ∨ ∃ b, v1.ownBlock = some b ∧ W.heap.size ≤ b) → Kc (a.put o.dst v1) w1) :
  if Region.wanted o (yielded ops a.tmps) = true then Oper.wp P o a W Kc Q else Kc (a.put o.dst undef) W := by
 obtain ⟨F, hR, hX, hM⟩ := sar_tags HO HX
 have hm : ys.length = m := (Kd.S_reads' HX).1.symm
 refine Kd.R_append_rows_step (Kd.tag F d) base hw s x t e z bytes ho ht hinfo hz hs0 hb0 v xs.zipIdx (ys.zipIdx xs.length) A m c ok okp hs hx hR hX hM hokp hfresh HB hbase (by rw [List.length_zipIdx, ← hm]; exact hl) ?_
 intro v1 w1 hr hb hg hat
 rw [← List.zipIdx_append' xs ys] at hr
 exact h v1 w1 ⟨F, hr⟩ hb hg hat
theorem Kd.R_times {α : Type} {d : Kd α} {e base : Nat} {W : World} {ok oku : Nat → Prop} {v u : Value} {xs : List α} (h : d.R e W base ok v xs) (hu : ∀ k, u.ownBlock = some k → oku k) (ha : ∀ k, ok k → oku k → False) : d.R e W base (fun k => ok k ∧ some k ≠ u.ownBlock) v xs := Kd.R_mono h (fun k hk => ⟨hk, fun e => ha k hk (hu k e.symm)⟩)
theorem Kd.S_times {α : Type} {d : Kd α} {e base : Nat} {W : World} {ok oku : Nat → Prop} {v u : Value} {xs : List α} (h : Kd.S d e W base ok v xs) (hu : ∀ k, u.ownBlock = some k → oku k) (ha : ∀ k, ok k → oku k → False) : Kd.S d e W base (fun k => ok k ∧ some k ≠ u.ownBlock) v xs := Kd.S_mono h (fun k hk => ⟨hk, fun e => ha k hk (hu k e.symm)⟩)
theorem Kd.S_lit1_step {P : Program} {ops : Array Oper} {o : Oper} {a : Act} {Q : Exit → Act → World → Prop} {Kc : Act → World → Prop} {α : Type} (d : Kd α) {W : World} (base e : Nat) (hw : Region.wanted o (yielded ops a.tmps) = true) {N : Tmp} (hd : o.dst = some N) {x : α} {cs : List Value} {ok okp : Nat → Prop}
  (hrun : (execOp a.eval o).run P W = .ok (.value (.slice (some ⟨W.heap.size, 0, none⟩) [x].length [x].length)) (W.alloc (.cells cs.toArray e)))
  (hp : d.M W base okp x cs) (hok : ∀ k, okp k → ok k) (hfresh : ok W.heap.size) (hbase : base ≤ W.heap.size)
  (h : ∀ v1 w1, Kd.S d e w1 base ok v1 [x] → Below W.heap.size W w1 → (∀ k, v1.ownBlock = some k → W.heap.size ≤ k) → Kc (a.put o.dst v1) w1) :
  if Region.wanted o (yielded ops a.tmps) = true then Oper.wp P o a W Kc Q else Kc (a.put o.dst undef) W := by
 refine Kd.S_lits_step (w0 := W) d base e hw hd (xs := [x]) (inner := cs) (ok := ok) (fun j k => j = 0 ∧ okp k) hrun (by rw [d.K_len (d.K_of_M hp)]; simp) ?_ (fun i j k hi hj => hi.1.trans hj.1.symm) (fun j k hk => hok k hk.2) hfresh (Below.refl _ _) hbase (by simp) ?_
 ·
  intro j y hj
  cases j with
  | zero =>
   obtain rfl : x = y := by simpa using hj
   rw [Nat.zero_mul, List.drop_zero, List.take_of_length_le (Nat.le_of_eq (d.K_len (d.K_of_M hp)))]; exact d.M_mono (fun k hk => ⟨rfl, hk⟩) hp
  | succ j => simp at hj
 intro v1 w1 hs _ hg hn
 obtain ⟨b, hb, hl⟩ := hn
 exact h v1 w1 hs (Below.grown (Below.refl _ _) hg (Nat.le_refl _) (fun k e => by cases e)) (fun k e => by rw [hb] at e; cases e; exact hl)
theorem box_stepL {P : Program} {ops : Array Oper} {o : Oper} {a : Act} {Q : Exit → Act → World → Prop} {Kc : Act → World → Prop} {W : World} (hw : Region.wanted o (yielded ops a.tmps) = true) {N : Tmp} (_hd : o.dst = some N) {cs : Array Value} {t : TypeId}
  (hrun : (execOp a.eval o).run P W = .ok (.value (.slice (some ⟨W.heap.size, 0, none⟩) 1 1)) (W.alloc (.cells cs t (0, 0))))
  (h : ∀ g, g = W.heap.size → ∀ w1, w1.heap[g]? = some (.cells cs t (0, 0)) → Below W.heap.size W w1 → Kc (a.put o.dst (.slice (some ⟨g, 0, none⟩) 1 1)) w1) : if Region.wanted o (yielded ops a.tmps) = true then Oper.wp P o a W Kc Q else Kc (a.put o.dst undef) W :=
 event_step hw hrun (h _ rfl _ (blk_new W _) (ba_ (Below.refl _ _) _))
theorem Kd.reads1 {α : Type} {d : Kd α} {e base : Nat} {W : World} {p : α} {n g : Nat} {cs : List Value} {okp : Nat → Prop} {f : Nat → Nat} (hbx : W.heap[g]? = some (.cells cs.toArray e (0, 0))) (hp : d.M W base okp p cs) (hf : ∀ k, okp k → f k = n) :
  ReadsRow (fun (q : α × Nat) cs => d.M W base (fun k => okp k ∧ f k = q.2) q.1 cs) d.sz W (some ⟨g, 0, none⟩) 1 [(p, n)] := by
 refine ⟨rfl, by decide, fun _ => ⟨_, rfl, fun j q hj => ?_⟩⟩
 cases j with
 | zero =>
  obtain rfl : (p, n) = q := by simpa using hj
  refine ⟨cs, d.K_len (d.K_of_M hp), d.M_mono (fun k hk => ⟨hk, hf k hk⟩) hp, fun i u hu => ?_⟩
  rw [Nat.zero_mul, Nat.zero_add]
  rw [show (⟨g, 0, none⟩ : Addr).add i = ⟨g, i, none⟩ by unfold Addr.add; split <;> simp_all, blk_cell hbx]
  simpa using hu
 | succ j => simp at hj
theorem Kd.S_append_box_step {P : Program} {ops : Array Oper} {o : Oper} {a : Act} {Q : Exit → Act → World → Prop} {Kc : Act → World → Prop} {α : Type} (d : Kd α) {w0 W : World} (base : Nat) (hw : Region.wanted o (yielded ops a.tmps) = true) (s x : Operand) (t e : TypeId) (z : Value) (bytes : Nat)
  (ho : o.op = .call { callee := .builtin .append, args := #[s, x], argTypes := #[t, t] })
  (ht : P.underlying t = some (.slice e)) (hinfo : (P.info? e).map (fun i => (i.zero, i.size, i.bytes)) = some (some z, d.sz, bytes)) (hz : z.cells.size = d.sz) (hs0 : 0 < d.sz) (hb0 : 0 < bytes)
  (v : Value) (xs : List α) (p : α) (cs : List Value) (ok okp : Nat → Prop) (g : Nat) (hbx : W.heap[g]? = some (.cells cs.toArray e (0, 0))) (hs : a.eval s = v) (hx : a.eval x = .slice (some ⟨g, 0, none⟩) 1 1) (hp : d.M W base okp p cs) (hokp : ∀ k, okp k → ok k ∧ some k ≠ v.ownBlock) (hfresh : ∀ k, W.heap.size ≤ k → ok k)
  (HO : Kd.S d e W base (fun k => ok k ∧ ¬ okp k) v xs) (HB : Below base w0 W) (hbase : base ≤ W.heap.size) (hl : (xs.length + 1) * bytes ≤ 140737488355328)
  (h : ∀ v1 w1, Kd.S d e w1 base ok v1 (xs ++ [p]) → Below base w0 w1 → W.grownBy w1 v.ownBlock → (v1.ownBlock = v.ownBlock ∨ ∃ b, v1.ownBlock = some b ∧ W.heap.size ≤ b) → Kc (a.put o.dst v1) w1) :
  if Region.wanted o (yielded ops a.tmps) = true then Oper.wp P o a W Kc Q else Kc (a.put o.dst undef) W := by
 obtain ⟨f, hf, hR⟩ := Kd.S_tag HO xs.length okp (fun _ hk h2 => h2.2 hk)
 refine Kd.R_append_rows_step (Kd.tag f d) base hw s x t e z bytes ho ht hinfo hz hs0 hb0 v xs.zipIdx [(p, xs.length)] (some ⟨g, 0, none⟩) 1 1 ok okp hs hx (Kd.R_mono hR (fun _ hk => hk.1)) (Kd.reads1 hbx hp hf) (fun _ _ h => h) hokp hfresh HB hbase (by rw [List.length_zipIdx]; exact hl) ?_
 intro v1 w1 hr hb hg hat
 rw [show xs.zipIdx ++ [(p, xs.length)] = (xs ++ [p]).zipIdx by rw [List.zipIdx_append']; rfl] at hr
 exact h v1 w1 ⟨f, hr⟩ hb hg hat
def Kd.opt {α : Type} (d : Kd α) : Kd (Option α) where
 sz := d.sz
 E := d.E
 K := fun w x cs => match x with | none => cs.length = d.sz ∧ ∀ u ∈ cs, u.oneCell' = true | some y => d.K w y cs
 M := fun w base ok x cs => match x with | none => cs.length = d.sz ∧ ∀ u ∈ cs, u.oneCell' = true | some y => d.M w base ok y cs
 K_len := by intro w x cs h; cases x with | none => exact h.1 | some y => exact d.K_len h
 K_one := by intro w x cs h; cases x with | none => exact h.2 | some y => exact d.K_one h
 K_below := by intro w w1 x cs hb h; cases x with | none => exact h | some y => exact d.K_below hb h
 K_of_M := by intro w base ok x cs h; cases x with | none => exact h | some y => exact d.K_of_M h
 M_mono := by intro w base ok ok' x cs hok h; cases x with | none => exact h | some y => exact d.M_mono hok h
 M_bound := by intro w base ok x cs h; cases x with | none => exact h | some y => exact d.M_bound h
 M_move := by intro w w1 base ok x cs hm h; cases x with | none => exact h | some y => exact d.M_move hm h
 M_lower := by intro w base base' ok x cs hb h; cases x with | none => exact h | some y => exact d.M_lower hb h
abbrev Kd.gap {α : Type} (m : Nat) (xs : List α) : List (Option α) := List.replicate m none ++ (xs.drop m).map some
/-! #### struct type 83 -/
structure S83 where
 f0 : ByteArray
 f1 : ByteArray
def z83 : S83 := ⟨(⟨#[]⟩ : ByteArray), (⟨#[]⟩ : ByteArray)⟩
def k83 : Kd S83 := Kd.iso (Kd.pair Kd.string Kd.string) (fun x : S83 => (x.f0, x.f1))
theorem k83_open {w : World} {x : S83} {cs : List Value} (h : k83.K w x cs) : cs = [.string x.f0, .string x.f1] := by
 obtain ⟨_, _, rfl, rfl, rfl⟩ := h
 exact rfl
theorem k83_openM {w : World} {base : Nat} {ok : Nat → Prop} {x : S83} {cs : List Value} (h : k83.M w base ok x cs) : cs = [.string x.f0, .string x.f1] := by
 obtain ⟨_, _, rfl, rfl, rfl⟩ := h
 exact rfl
theorem k83_mkM (w : World) (base : Nat) (ok : Nat → Prop) (x : S83)  : k83.M w base ok x [.string x.f0, .string x.f1] := ⟨[.string x.f0], [.string x.f1], rfl, rfl, rfl⟩
def rd_T83 (xs : List S83) (i : Int) : S83 := xs.getD i.toNat z83
theorem at_T83 {w : World} {A : Option Addr} {n : Nat} {xs : List S83} (h : Kd.C k83 w A n xs) (i : Int) (h0 : 0 ≤ i) (h1 : i < n) : ∃ ad , A = some ad ∧ w.cell? (ad.add (i.toNat * 2)) = some (.string (rd_T83 xs i).f0) ∧ w.cell? ⟨(ad.add (i.toNat * 2)).block, (ad.add (i.toNat * 2)).off + 1, none⟩ = some (.string (rd_T83 xs i).f1) := by
 obtain ⟨ad, c, e, _, hK, hc0⟩ := Kd.C_get h z83 i h0 h1
 have hc : ∀ j u, c[j]? = some u → w.cell? (ad.add (i.toNat * 2 + j)) = some u := hc0
 obtain rfl := k83_open hK
 exact ⟨ad, e, hc 0 _ rfl, by rw [← add_field _ _ 1 (by omega)]; exact hc 1 _ rfl⟩

def rd_L4 (xs : List (List S83)) (i : Int) : (List S83) := xs.getD i.toNat ([] : List S83)
/-! #### struct type 37 -/
structure S37 where
 f0 : (List S83)
 f1 : Int
 f2 : Int
 f3 : ByteArray
def z37 : S37 := ⟨([] : List S83), (0 : Int), (0 : Int), (⟨#[]⟩ : ByteArray)⟩
def k37 : Kd S37 := Kd.iso (Kd.pair (Kd.slice 83 k83) (Kd.pair (Kd.int .i64) (Kd.pair (Kd.int .i64) Kd.string))) (fun x : S37 => (x.f0, x.f1, x.f2, x.f3))
theorem k37_open {w : World} {x : S37} {cs : List Value} (h : k37.K w x cs) : ∃ A0 c0, cs = [.slice A0 x.f0.length c0, .int .i64 x.f1, .int .i64 x.f2, .string x.f3] ∧ x.f0.length ≤ c0 ∧ k83.C w A0 x.f0.length x.f0 := by
 obtain ⟨_, _, rfl, ⟨A0, c0, rfl, l0, g0⟩, ⟨_, _, rfl, rfl, ⟨_, _, rfl, rfl, rfl⟩⟩⟩ := h
 exact ⟨A0, c0, rfl, l0, g0⟩
theorem k37_openM {w : World} {base : Nat} {ok : Nat → Prop} {x : S37} {cs : List Value} (h : k37.M w base ok x cs) : ∃ v0, cs = [v0, .int .i64 x.f1, .int .i64 x.f2, .string x.f3] ∧ k83.R 83 w base ok v0 x.f0 := by
 obtain ⟨_, _, rfl, ⟨v0, rfl, g0⟩, ⟨_, _, rfl, rfl, ⟨_, _, rfl, rfl, rfl⟩⟩⟩ := h
 exact ⟨v0, rfl, g0⟩
theorem k37_mkM (w : World) (base : Nat) (ok : Nat → Prop) (x : S37) {v0 : Value} (g0 : k83.R 83 w base ok v0 x.f0) : k37.M w base ok x [v0, .int .i64 x.f1, .int .i64 x.f2, .string x.f3] := ⟨[v0], [.int .i64 x.f1, .int .i64 x.f2, .string x.f3], rfl, ⟨v0, rfl, g0⟩, ⟨[.int .i64 x.f1], [.int .i64 x.f2, .string x.f3], rfl, rfl, ⟨[.int .i64 x.f2], [.string x.f3], rfl, rfl, rfl⟩⟩⟩
def rd_T37 (xs : List S37) (i : Int) : S37 := xs.getD i.toNat z37
theorem at_T37 {w : World} {A : Option Addr} {n : Nat} {xs : List S37} (h : Kd.C k37 w A n xs) (i : Int) (h0 : 0 ≤ i) (h1 : i < n) : ∃ ad A0 c0, A = some ad ∧ w.cell? (ad.add (i.toNat * 4)) = some (.slice A0 (rd_T37 xs i).f0.length c0) ∧ w.cell? ⟨(ad.add (i.toNat * 4)).block, (ad.add (i.toNat * 4)).off + 1, none⟩ = some (.int .i64 (rd_T37 xs i).f1) ∧ w.cell? ⟨(ad.add (i.toNat * 4)).block, (ad.add (i.toNat * 4)).off + 2, none⟩ = some (.int .i64 (rd_T37 xs i).f2) ∧ w.cell? ⟨(ad.add (i.toNat * 4)).block, (ad.add (i.toNat * 4)).off + 3, none⟩ = some (.string (rd_T37 xs i).f3) ∧ (rd_T37 xs i).f0.length ≤ c0 ∧ k83.C w A0 (rd_T37 xs i).f0.length (rd_T37 xs i).f0 := by
 obtain ⟨ad, c, e, _, hK, hc0⟩ := Kd.C_get h z37 i h0 h1
 have hc : ∀ j u, c[j]? = some u → w.cell? (ad.add (i.toNat * 4 + j)) = some u := hc0
 obtain ⟨A0, c0, rfl, l0, g0⟩ := k37_open hK
 exact ⟨ad, A0, c0, e, hc 0 _ rfl, by rw [← add_field _ _ 1 (by omega)]; exact hc 1 _ rfl, by rw [← add_field _ _ 2 (by omega)]; exact hc 2 _ rfl, by rw [← add_field _ _ 3 (by omega)]; exact hc 3 _ rfl, l0, g0⟩
end Go.Proofs.YtanfohlpkppeiaaDoor.Print
end
section
namespace Go.Proofs.YtanfohlpkppeiaaDoor.Print
open Go.RowKit Go.Proofs.YtanfohlpkppeiaaDoorV.PrintWords Go.Proofs.YtanfohlpkppeiaaDoorV.PrintLast Go.Proofs.YtanfohlpkppeiaaDoorV.PrintMore
set_option linter.unusedVariables false
set_option linter.unusedSimpArgs false
namespace Kd
variable {α : Type} {d : Kd α} {e n m cap g base : Nat} {w w1 W : World} {ok : Nat → Prop} {v : Value} {xs : List α}
theorem S_ltz (hz : n = w.heap.size) (h : Kd.S d e w base ok v xs) : Kd.S d e w base (fun k => ok k ∧ k < n) v xs := Kd.S_mono (Kd.S_bound h) (fun k hk => ⟨hk.1, by have := hk.2.2.1; omega⟩)
theorem R_ltz (hz : n = w.heap.size) (h : Kd.R d e w base ok v xs) : Kd.R d e w base (fun k => ok k ∧ k < n) v xs := Kd.R_mono (Kd.R_bound h) (fun k hk => ⟨hk.1, by have := hk.2.2.1; omega⟩)
theorem S_gez (hz : n = W.heap.size) (h : Kd.S d e w W.heap.size ok v xs) : Kd.S d e w W.heap.size (fun k => ok k ∧ n ≤ k) v xs := Kd.S_mono (Kd.S_bound h) (fun k hk => ⟨hk.1, by have := hk.2.1; omega⟩)
theorem R_gez (hz : n = W.heap.size) (h : Kd.R d e w W.heap.size ok v xs) : Kd.R d e w W.heap.size (fun k => ok k ∧ n ≤ k) v xs := Kd.R_mono (Kd.R_bound h) (fun k hk => ⟨hk.1, by have := hk.2.1; omega⟩)
theorem S_name (_h : Kd.S d e w W.heap.size ok v xs) : ∃ n, n = W.heap.size := ⟨_, rfl⟩
theorem R_name (_h : Kd.R d e w W.heap.size ok v xs) : ∃ n, n = W.heap.size := ⟨_, rfl⟩
theorem S_fp (h : Kd.S d e w base ok v xs) : ∃ P : Nat → Prop, Kd.S d e w base P v xs ∧ ∀ k, P k → ok k ∧ base ≤ k ∧ ∃ q, q ∈ e :: d.E ∧ ∃ cells, w.heap[k]? = some (.cells cells q (0, 0)) := ⟨_, Kd.S_bound h, fun _ hk => ⟨hk.1, hk.2.1, hk.2.2.2⟩⟩
theorem R_fp (h : Kd.R d e w base ok v xs) : ∃ P : Nat → Prop, Kd.R d e w base P v xs ∧ ∀ k, P k → ok k ∧ base ≤ k ∧ ∃ q, q ∈ e :: d.E ∧ ∃ cells, w.heap[k]? = some (.cells cells q (0, 0)) := ⟨_, Kd.R_bound h, fun _ hk => ⟨hk.1, hk.2.1, hk.2.2.2⟩⟩
theorem R_fpt (hE : d.E = []) (h : Kd.R d e w base ok v xs) : ∃ P : Nat → Prop, Kd.R d e w base P v xs ∧ ∀ k, P k → (ok k ∧ some k = v.ownBlock) ∧ base ≤ k ∧ ∃ q, q ∈ e :: d.E ∧ ∃ cells, w.heap[k]? = some (.cells cells q (0, 0)) :=
  ⟨_, Kd.R_bound (Kd.R_tight hE h), fun k hk => ⟨⟨h.1 k hk.1.symm, hk.1⟩, hk.2.1, hk.2.2.2⟩⟩
end Kd
theorem no_blk {W : World} {g t : Nat} {cells : Array Value} {E : List Nat} (hb : W.heap[g]? = some (.cells cells t (0, 0))) (ht : ∀ q, q ∈ E → q ≠ t) (h : ∃ q, q ∈ E ∧ ∃ c, W.heap[g]? = some (.cells c q (0, 0))) : False := by
  obtain ⟨q, hq, c, hc⟩ := h
  rw [hc] at hb
  injection hb with hb
  injection hb with _ hb
  exact ht q hq hb
section
variable {α : Type} {d : Kd α} {e n cap g base : Nat} {W : World} {ok : Nat → Prop} {v : Value} {xs : List α} {x : α} {i : Int}
theorem S_begin (h : Kd.S d e W base ok v xs) (z : α) (i : Int) (h0 : 0 ≤ i) (h1 : i < (xs.length : Int)) : Kd.S d e W base ok v (xs.set i.toNat (xs.getD i.toNat z)) := by
  have hi : i.toNat < xs.length := by omega
  rw [List.getD_eq_getElem?_getD, List.getElem?_eq_getElem hi]
  simpa using h
theorem S_hand (h : Kd.S d e W base ok (.slice (some ⟨g, 0, none⟩) n cap) (xs.set i.toNat x)) (h0 : 0 ≤ i) (h1 : i < (xs.length : Int)) :
    ∃ (oki : Nat → Prop) (c : List Value), d.M W base oki x c ∧ (∀ j u, c[j]? = some u → W.cell? ⟨g, i.toNat * d.sz + j, none⟩ = some u) ∧ (∀ j, W.frozen? ⟨g, i.toNat * d.sz + j, none⟩ = false) ∧ (∀ k, oki k → ok k ∧ k ≠ g) ∧
      (∀ w1 x', Kept W w1 oki → d.M w1 base oki x' c → Kd.S d e w1 base ok (.slice (some ⟨g, 0, none⟩) n cap) (xs.set i.toNat x')) ∧
      (∀ u j x', u.oneCell' = true → j + 1 ≤ d.sz → d.M W base oki x' (c.take j ++ [u] ++ c.drop (j + 1)) → Kd.S d e (W.setCells g (i.toNat * d.sz + j) [u]) base ok (.slice (some ⟨g, 0, none⟩) n cap) (xs.set i.toNat x') ∧ W.grownBy (W.setCells g (i.toNat * d.sz + j) [u]) (some g)) := by
  have hn := (Kd.S_reads' h).1
  rw [List.length_set] at hn
  have hi : i.toNat < xs.length := by omega
  obtain ⟨oki, c, hcl, hM, hcc, hfr, hoki, hH⟩ := Kd.S_elem (Kd.S_mono (ok' := fun k => ok k ∧ ¬ False) h (fun k hk => ⟨hk, id⟩)) x i h0 (by omega)
  rw [List.getD_eq_getElem?_getD, List.getElem?_set_self hi, Option.getD_some] at hM
  refine ⟨oki, c, hM, hcc, hfr, fun k hk => ⟨(hoki k hk).1.1, (hoki k hk).2⟩, fun w1 x' hk hM1 => ?_, fun u j x' hu hj hM1 => ?_⟩
  · have h2 := Kd.H_back (Kd.H_step hH (fun k _ hn hlt => hk.2 k hlt hn)) hM1 (fun _ hk => hk)
    rw [List.set_set] at h2
    exact Kd.S_mono h2 (fun k hk => hk.1)
  · obtain ⟨h2, h3⟩ := Kd.S_seg (okg := fun _ => False) hH h0 (by omega) (seg := [u]) (j := j) hj hM1 (fun k hk => .inl hk) (fun _ hk => hk.elim)
    rw [List.set_set] at h2
    exact ⟨h2, h3⟩
end

end Go.Proofs.YtanfohlpkppeiaaDoor.Print
end
section
namespace Go.Proofs.YtanfohlpkppeiaaDoor.Print
open Go.RowKit Go.Proofs.YtanfohlpkppeiaaDoorV.PrintWords Go.Proofs.YtanfohlpkppeiaaDoorV.PrintLast Go.Proofs.YtanfohlpkppeiaaDoorV.PrintMore
attribute [local go_sem] max2_int min2_int max_two min_two max_three min_three max_four min_four
set_option linter.unusedVariables false
set_option linter.unusedSimpArgs false
set_option maxHeartbeats 8000000
set_option maxRecDepth 100000
def laws_big.f (l0 : List Int) : Option (Bool) := some (decide ((l0.length : Int) > 1048576))
theorem laws_big.calls (A0 : Option Addr) (c0 : Nat) (l0 : List Int) (r : Bool) (w : World) (hr0 : Kd.C (Kd.int .u8) w A0 l0.length l0) (hc0 : l0.length ≤ c0) (h : laws_big.f l0 = some r) :
  Calls Tryd.prog 4 #[.slice A0 l0.length c0] w fun e w' => e = .returned (.bool r) ∧ Drawn0 w w' := by
 have HR0 := Aside0.mk hr0
 have HC0 := Aside0.mk hc0
 clear hr0 hc0
 have H : (some (decide ((l0.length : Int) > 1048576))) = some r := h
 clear h
 obtain rfl := Option.some.inj H
 go_enter Tryd.func4, Tryd.ntmps4
 go_wp2
 go_ret
 exact ⟨by first | rfl | (simp; done) | (simp [*]; done), by repeat (first | exact Drawn0.refl _ | apply Drawn0.step)⟩
/-- A state of type 64 at block g of W; what its slices lead to came in by w0. -/
def IsS64 (w0 W : World) (g : Nat) (f0 : List Int) (f1 : Int) (f2 : Int) : Prop := ∃ A0 c0, W.heap[g]? = some (.cells #[.slice A0 f0.length c0, .int .i64 f1, .int .i64 f2] 64 (0, 0)) ∧ w0.heap.size ≤ g ∧ Kd.C (Kd.int .u8) w0 A0 f0.length f0
theorem IsS64.grown {w0 W : World} {g : Nat} {f0 : List Int} {f1 : Int} {f2 : Int} {W1 : World} {row : Option Nat} (h : IsS64 w0 W g f0 f1 f2) (hw : W.grownBy W1 row) (hne : some g ≠ row) : IsS64 w0 W1 g f0 f1 f2 := by
 obtain ⟨A0, c0, hb, hg, hr0⟩ := h
 exact ⟨A0, c0, blk_grown hb hw hne, hg, hr0⟩
theorem IsS64.kept {w0 W : World} {g : Nat} {f0 : List Int} {f1 : Int} {f2 : Int} {W1 : World} {S : Nat → Prop} (h : IsS64 w0 W g f0 f1 f2) (hk : Kept W W1 S) (hne : ¬ S g) : IsS64 w0 W1 g f0 f1 f2 := by
 obtain ⟨A0, c0, hb, hg, hr0⟩ := h
 exact ⟨A0, c0, blk_kept hb hk hne, hg, hr0⟩
theorem IsS64.below {w0 W : World} {g : Nat} {f0 : List Int} {f1 : Int} {f2 : Int} {W1 : World} (h : IsS64 w0 W g f0 f1 f2) (hw : Below W.heap.size W W1) : IsS64 w0 W1 g f0 f1 f2 := h.grown (grown_of_below hw none) (by simp)
theorem IsS64.alloc {w0 W : World} {g : Nat} {f0 : List Int} {f1 : Int} {f2 : Int} (h : IsS64 w0 W g f0 f1 f2) (o : Obj) : IsS64 w0 (W.alloc o) g f0 f1 f2 := h.below (ba_ (Below.refl _ _) o)
theorem IsS64.drewN {w0 W : World} {g : Nat} {f0 : List Int} {f1 : Int} {f2 : Int} (h : IsS64 w0 W g f0 f1 f2) (m : Nat) : IsS64 w0 (W.drewN m) g f0 f1 f2 := h
theorem IsS64.drew {w0 W : World} {g : Nat} {f0 : List Int} {f1 : Int} {f2 : Int} (h : IsS64 w0 W g f0 f1 f2) : IsS64 w0 W.drew g f0 f1 f2 := h
theorem IsS64.at_ {w0 W : World} {g : Nat} {f0 : List Int} {f1 : Int} {f2 : Int} {w' : World} {m : Nat} (hq : W.drewN m = w') (h : IsS64 w0 W g f0 f1 f2) : IsS64 w0 w' g f0 f1 f2 := by subst hq; exact IsS64.drewN h m
theorem IsS64.apart {w0 W : World} {g : Nat} {f0 : List Int} {f1 : Int} {f2 : Int} {α : Type} {d : Kd α} {e : Nat} {base : Nat} {ok : Nat → Prop} {v : Value} {xs : List α} (h : IsS64 w0 W g f0 f1 f2) (ho : d.R e W base ok v xs) (ht : ∀ q, q ∈ e :: d.E → q ≠ 64) : d.R e W base (fun k => ok k ∧ k ≠ g) v xs := by
 obtain ⟨A0, c0, hb, hg, hr0⟩ := h
 exact Kd.R_types ho hb ht
theorem IsS64.own_ne {w0 W : World} {g : Nat} {f0 : List Int} {f1 : Int} {f2 : Int} {α : Type} {d : Kd α} {e : Nat} {base : Nat} {ok : Nat → Prop} {v : Value} {xs : List α} (h : IsS64 w0 W g f0 f1 f2) (ho : d.R e W base ok v xs) (ht : e ≠ 64) : some g ≠ v.ownBlock := by
 obtain ⟨A0, c0, hb, hg, hr0⟩ := h
 exact Kd.R_ne ho hb ht
theorem IsS64.apartS {w0 W : World} {g : Nat} {f0 : List Int} {f1 : Int} {f2 : Int} {α : Type} {d : Kd α} {e : Nat} {base : Nat} {ok : Nat → Prop} {v : Value} {xs : List α} (h : IsS64 w0 W g f0 f1 f2) (ho : d.S e W base ok v xs) (ht : ∀ q, q ∈ e :: d.E → q ≠ 64) : d.S e W base (fun k => ok k ∧ k ≠ g) v xs := by
 obtain ⟨A0, c0, hb, hg, hr0⟩ := h
 exact Kd.S_types ho hb ht
theorem IsS64.lt {w0 W : World} {g : Nat} {f0 : List Int} {f1 : Int} {f2 : Int} (h : IsS64 w0 W g f0 f1 f2) : g < W.heap.size := by
 obtain ⟨A0, c0, hb, hg, hr0⟩ := h
 exact blk_lt hb
theorem IsS64.ge {w0 W : World} {g : Nat} {f0 : List Int} {f1 : Int} {f2 : Int} (h : IsS64 w0 W g f0 f1 f2) : w0.heap.size ≤ g := by
 obtain ⟨A0, c0, hb, hg, hr0⟩ := h
 exact hg
theorem IsS64.ne_blk {w0 W : World} {g : Nat} {f0 : List Int} {f1 : Int} {f2 : Int} {a : Nat} {cs : Array Value} {t : TypeId} {fr : Nat × Nat} (h : IsS64 w0 W g f0 f1 f2) (hb2 : W.heap[a]? = some (.cells cs t fr)) (ht : t ≠ 64) : g ≠ a := by
 obtain ⟨A0, c0, hb, hg, hr0⟩ := h
 rintro rfl
 rw [hb] at hb2
 injection hb2 with hb2
 injection hb2 with _ ht2
 exact ht ht2.symm
theorem IsS64.far {w0 W : World} {g : Nat} {f0 : List Int} {f1 : Int} {f2 : Int} {p : Addr} (h : IsS64 w0 W g f0 f1 f2) (hne : g ≠ p.block) (u : Value) : IsS64 w0 (W.setCell p u) g f0 f1 f2 := by
 obtain ⟨A0, c0, hb, hg, hr0⟩ := h
 exact ⟨A0, c0, blk_far hb hne u, hg, hr0⟩
theorem cellS64_0 {W : World} {g : Nat} {A0 : Option Addr} {c0 : Nat} {f0 : List Int} {f1 : Int} {f2 : Int} (h : W.heap[g]? = some (.cells #[.slice A0 f0.length c0, .int .i64 f1, .int .i64 f2] 64 (0, 0))) : W.cell? ⟨g, 0, none⟩ = some (.slice A0 f0.length c0) := (blk_cell h 0).trans rfl
theorem cellS64_1 {W : World} {g : Nat} {A0 : Option Addr} {c0 : Nat} {f0 : List Int} {f1 : Int} {f2 : Int} (h : W.heap[g]? = some (.cells #[.slice A0 f0.length c0, .int .i64 f1, .int .i64 f2] 64 (0, 0))) : W.cell? ⟨g, 1, none⟩ = some (.int .i64 f1) := (blk_cell h 1).trans rfl
theorem IsS64.set_1 {w0 W : World} {g : Nat} {f0 : List Int} {f1 : Int} {f2 : Int} (h : IsS64 w0 W g f0 f1 f2) (x : Int) : IsS64 w0 (W.setCell ⟨g, 1, none⟩ (.int .i64 x)) g f0 x f2 := by
 obtain ⟨A0, c0, hb, hg, hr0⟩ := h
 exact ⟨A0, c0, by simpa using blk_set hb 1 (.int .i64 x), hg, hr0⟩
theorem cellS64_2 {W : World} {g : Nat} {A0 : Option Addr} {c0 : Nat} {f0 : List Int} {f1 : Int} {f2 : Int} (h : W.heap[g]? = some (.cells #[.slice A0 f0.length c0, .int .i64 f1, .int .i64 f2] 64 (0, 0))) : W.cell? ⟨g, 2, none⟩ = some (.int .i64 f2) := (blk_cell h 2).trans rfl
theorem IsS64.set_2 {w0 W : World} {g : Nat} {f0 : List Int} {f1 : Int} {f2 : Int} (h : IsS64 w0 W g f0 f1 f2) (x : Int) : IsS64 w0 (W.setCell ⟨g, 2, none⟩ (.int .i64 x)) g f0 f1 x := by
 obtain ⟨A0, c0, hb, hg, hr0⟩ := h
 exact ⟨A0, c0, by simpa using blk_set hb 2 (.int .i64 x), hg, hr0⟩
theorem IsS64.new (w0 W : World) (A0 : Option Addr) (c0 : Nat) (f0 : List Int) (f1 : Int) (f2 : Int) (hB : Below w0.heap.size w0 W) (hr0 : Kd.C (Kd.int .u8) w0 A0 f0.length f0) : IsS64 w0 (W.alloc (.cells #[.slice A0 f0.length c0, .int .i64 f1, .int .i64 f2] 64)) W.heap.size f0 f1 f2 := ⟨A0, c0, by simpa using heap_alloc_new W _, hB.size, hr0⟩
theorem IsS64.pk_ {w0 w W : World} {g : Nat} {f0 : List Int} {f1 : Int} {f2 : Int} [hp : Bq_ w W g] (h : IsS64 w0 w g f0 f1 f2) : IsS64 w0 W g f0 f1 f2 := by
  obtain ⟨A0, c0, h1, h2⟩ := h
  exact ⟨A0, c0, hp.go _ h1, h2⟩
theorem IsS64.bk_ {w0 w W w1 : World} {g : Nat} {f0 : List Int} {f1 : Int} {f2 : Int} [hp : Bq_ w W g] (h : Aside0 (IsS64 w0 w g f0 f1 f2)) (hb : Below W.heap.size W w1) : Aside0 (IsS64 w0 w1 g f0 f1 f2) := ⟨IsS64.below (IsS64.pk_ h.out) hb⟩
theorem IsS64.nl_ {w0 w W : World} {g x : Nat} {f0 : List Int} {f1 : Int} {f2 : Int} [hp : Bq_ w W g] (h : Aside0 (IsS64 w0 w g f0 f1 f2)) (hg : x = W.heap.size) : Ne_ g x := ⟨by rw [hg]; exact Nat.ne_of_lt (IsS64.lt (IsS64.pk_ h.out))⟩
theorem IsS64.ng_ {w0 w W : World} {g x : Nat} {f0 : List Int} {f1 : Int} {f2 : Int} [hp : Bq_ w W g] (h : Aside0 (IsS64 w0 w g f0 f1 f2)) (hg : x = W.heap.size) : Ne_ x g := ⟨by rw [hg]; exact Nat.ne_of_gt (IsS64.lt (IsS64.pk_ h.out))⟩
theorem IsS64.rk_ {w0 w W w1 : World} {g : Nat} {f0 : List Int} {f1 : Int} {f2 : Int} {α : Type} {d : Kd α} {e base : Nat} {ok : Nat → Prop} {v : Value} {xs : List α} [hp : Bq_ w W g] [hq : Pk_ W w] (h : Aside0 (IsS64 w0 w g f0 f1 f2)) (ho : Aside0 (Kd.R d e w base ok v xs)) (hk : KeepBut W w1 g none) (ht : ∀ q, q ∈ e :: d.E → q ≠ 64 := by decide) : Aside0 (Kd.R d e w1 base ok v xs) := ⟨Kd.R_mono (Kd.R_keep (IsS64.apart (IsS64.pk_ h.out) (rp_ ho.out) ht) hk (fun _ h => h.2)) (fun _ h => h.1)⟩
theorem IsS64.sk_ {w0 w W w1 : World} {g : Nat} {f0 : List Int} {f1 : Int} {f2 : Int} {α : Type} {d : Kd α} {e base : Nat} {ok : Nat → Prop} {v : Value} {xs : List α} [hp : Bq_ w W g] [hq : Pk_ W w] (h : Aside0 (IsS64 w0 w g f0 f1 f2)) (ho : Aside0 (Kd.S d e w base ok v xs)) (hk : KeepBut W w1 g none) (ht : ∀ q, q ∈ e :: d.E → q ≠ 64 := by decide) : Aside0 (Kd.S d e w1 base ok v xs) := ⟨Kd.S_mono (Kd.S_keep (IsS64.apartS (IsS64.pk_ h.out) (sp_ ho.out) ht) hk (fun _ h => h.2)) (fun _ h => h.1)⟩

def spec_l1New.l0 : Nat → List Int → Int → Int → Option (List Int × Int × Int)
 | 0, _, _, _ => none
 | k + 1, x0, x3, x4 => if x4 < (x0.length : Int) then (if x4 < 4000 then (if 0 ≤ x4 then (spec_l1New.l0 k x0 (Go.bits .and .i64 (wrap64 ((wrap64 ((wrap64 (x3 * 137)) + (wrap64 (rd x0 x4)))) + 11)) 1073741823) (wrap64 (x4 + 1))) else (none)) else (some (x0, 0, x3))) else (some (x0, 0, x3))
def spec_l1New.f (k : Nat) (l0 : List Int) : Option (List Int × Int × Int) := spec_l1New.l0 k l0 (wrap64 (140873 + (l0.length : Int))) 0
theorem spec_l1New.mono_l : ∀ k, (∀ y0 y1 y2, LeO (spec_l1New.l0 k y0 y1 y2) (spec_l1New.l0 (k + 1) y0 y1 y2))
 | 0 => fun _ _ _ r h => by simp [spec_l1New.l0] at h
 | k + 1 => by
  have ih0 := spec_l1New.mono_l k
  intro y0 y1 y2
  unfold spec_l1New.l0
  repeat' first
  | (with_reducible exact ih0 _ _ _)
  | (with_reducible exact LeO.refl _)
  | (with_reducible exact LeO.none _)
  | (with_reducible refine LeO.ite ?_ ?_)
  | (with_reducible refine LeO.bind ?_ (fun _ => ?_))
  | exact ih0 _ _ _
theorem spec_l1New.mono : ∀ a0 k, LeO (spec_l1New.f k a0) (spec_l1New.f (k + 1) a0) := by
 intro a0 k
 have ih0 := spec_l1New.mono_l k
 unfold spec_l1New.f
 repeat' first | (with_reducible first | exact ih0 _ _ _ | exact LeO.refl _ | exact LeO.none _ | refine LeO.ite ?_ ?_ | refine LeO.bind ?_ (fun _ => ?_)) | exact ih0 _ _ _
theorem spec_l1New.calls (k : Nat) (A0 : Option Addr) (c0 : Nat) (l0 : List Int) (r1 : List Int) (r2 : Int) (r3 : Int) (w0 w : World) (hB : Below w0.heap.size w0 w) (hr0 : Kd.C (Kd.int .u8) w0 A0 l0.length l0) (hc0 : l0.length ≤ c0) (h : spec_l1New.f k l0 = some (r1, r2, r3)) :
  Calls Tryd.prog 22 #[.slice A0 l0.length c0] w fun e w' => ∃ g_ : Nat, e = .returned (.pointer (some ⟨g_, 0, none⟩)) ∧ IsS64 w0 w' g_ r1 r2 r3 ∧ Below w0.heap.size w0 w' ∧ Below w.heap.size w w' := by
 have hu64 := Tryd.underlying64
 have HR0 := Aside0.mk hr0
 have HC0 := Aside0.mk hc0
 clear hr0 hc0
 have HBW := Aside0.mk (Below.refl w.heap.size w)
 have HW0 := Aside0.mk hB.size
 have HB := Aside0.mk hB
 clear hB
 have H : (spec_l1New.l0 k l0 (wrap64 (140873 + (l0.length : Int))) 0) = some (r1, r2, r3) := h
 clear h
 have H' := Aside0.mk H
 clear H
 go_enter Tryd.func22, Tryd.ntmps22
 go_wp2
 go_loopg [3, 4] k (fun kq v3 v4 w' => ∃ (x3_1 : Int) (x4_1 : Int), v3 = .int .i64 x3_1 ∧ v4 = .int .i64 x4_1 ∧ Aside0 (spec_l1New.l0 kq l0 x3_1 x4_1 = some (r1, r2, r3)) ∧ Aside0 (kq ≤ k) ∧ Aside0 (Below w.heap.size w w') ∧ Aside0 (Below w0.heap.size w0 w'))
 case atStart => exact ⟨(wrap64 (140873 + (l0.length : Int))), (0), (by first | rfl | (simp; done) | (simp [*]; done)), (by first | rfl | (simp; done) | (simp [*]; done)), H', ⟨Nat.le_refl _⟩, ⟨by repeat (first | (with_reducible first | exact HBW.out | apply ba_ | apply bn_ | apply bd_) | exact HBW.out)⟩, ⟨by exact hs_ HB.out⟩⟩
 case round =>
  clear H'
  obtain ⟨x3_1, x4_1, rfl, rfl, HA, HK1, HBW, HB⟩ := hrel
  cases gk with
  | zero => exact absurd HA.out (by simp [spec_l1New.l0])
  | succ k1 =>
   have H := HA.out
   clear HA
   simp only [spec_l1New.l0] at H
   by_cases c2 : x4_1 < (l0.length : Int)
   ·
    rw [if_pos c2] at H
    have c2b0 := decide_eq_true c2
    clear c2
    by_cases c3 : x4_1 < 4000
    ·
     rw [if_pos c3] at H
     have c3b0 := decide_eq_true c3
     clear c3
     by_cases c4 : 0 ≤ x4_1
     ·
      rw [if_pos c4] at H
      have c4b0 := decide_eq_true c4
      clear c4
      have H' := Aside0.mk H
      clear H
      have p101 : 0 ≤ (x4_1 : Int) := of_decide_eq_true (by with_reducible assumption)
      have q101 : x4_1 < (l0.length : Int) := of_decide_eq_true (by with_reducible assumption)
      obtain ⟨ad101, e101, hx101_0⟩ := Kd.at_int HR0.out x4_1 p101 q101
      cases e101
      replace hx101_0 := pw_cell_below HB.out hx101_0
      replace p101 := eq_true p101
      replace q101 := eq_true q101
      go_wp2
      go_roundg k1
      case measure => have := HK1.out; omega
      case rel => exact ⟨(Go.bits .and .i64 (wrap64 ((wrap64 ((wrap64 (x3_1 * 137)) + (wrap64 (rd l0 x4_1)))) + 11)) 1073741823), (wrap64 (x4_1 + 1)), (by first | rfl | (simp; done) | (simp [*]; done)), (by first | rfl | (simp; done) | (simp [*]; done)), H', ⟨by have := HK1.out; omega⟩, ⟨by repeat (first | (with_reducible first | exact HBW.out | apply ba_ | apply bn_ | apply bd_) | exact HBW.out)⟩, ⟨by exact hs_ HB.out⟩⟩
     rw [if_neg c4] at H
     exact absurd H (by simp)
    rw [if_neg c3] at H
    have c3b0 : decide (x4_1 < 4000) = false := decide_eq_false c3
    clear c3
    simp only [Option.some.injEq, Prod.mk.injEq] at H
    obtain ⟨rfl, rfl, rfl⟩ := H
    go_wp2_with (first | ((with_reducible refine gd_ 31 rfl ?_); refine bv_ 31 #[.slice A0 l0.length c0, .int .i64 0, .int .i64 x3_1] 64 ?_; intro gb102 hg w5 hbox hb; replace HB := st_ HB hb; have BK102 := Aside0.mk (hbox); have GW102 := Ge_.mk ((by rw [hg]; exact (below_size (by repeat (first | (with_reducible first | exact HBW.out | apply ba_ | apply bn_ | apply bd_) | exact HBW.out))) : w.heap.size ≤ gb102)); replace HBW := Aside0.mk (below_step HBW.out hb); have GE102 := gt_ HW0 GW102; clear hb hbox hg))
    go_ret
    exact ⟨_, rfl, (show IsS64 w0 _ gb102 l0 0 x3_1 from ⟨_, _, by (with_reducible repeat (first | refine kn_ ?_ _ | refine kd_ ?_ | refine ka_ ?_ _)); exact BK102.out, GE102.out, HR0.out⟩), by exact hs_ HB.out, by repeat (first | (with_reducible first | exact HBW.out | apply ba_ | apply bn_ | apply bd_ | apply bs_ GW102) | exact HBW.out)⟩
   rw [if_neg c2] at H
   have c2b0 : decide (x4_1 < (l0.length : Int)) = false := decide_eq_false c2
   clear c2
   simp only [Option.some.injEq, Prod.mk.injEq] at H
   obtain ⟨rfl, rfl, rfl⟩ := H
   go_wp2_with (first | ((with_reducible refine gd_ 31 rfl ?_); refine bv_ 31 #[.slice A0 l0.length c0, .int .i64 0, .int .i64 x3_1] 64 ?_; intro gb103 hg w6 hbox hb; replace HB := st_ HB hb; have BK103 := Aside0.mk (hbox); have GW103 := Ge_.mk ((by rw [hg]; exact (below_size (by repeat (first | (with_reducible first | exact HBW.out | apply ba_ | apply bn_ | apply bd_) | exact HBW.out))) : w.heap.size ≤ gb103)); replace HBW := Aside0.mk (below_step HBW.out hb); have GE103 := gt_ HW0 GW103; clear hb hbox hg))
   go_ret
   exact ⟨_, rfl, (show IsS64 w0 _ gb103 l0 0 x3_1 from ⟨_, _, by (with_reducible repeat (first | refine kn_ ?_ _ | refine kd_ ?_ | refine ka_ ?_ _)); exact BK103.out, GE103.out, HR0.out⟩), by exact hs_ HB.out, by repeat (first | (with_reducible first | exact HBW.out | apply ba_ | apply bn_ | apply bd_ | apply bs_ GW103) | exact HBW.out)⟩
def spec_l1Byte.f (s0_0 : List Int) (s0_1 : Int) (s0_2 : Int) : Option (Int × Int × Int) := if s0_1 < (s0_0.length : Int) then (if 0 ≤ s0_1 then (some (Go.bits .and .i64 (wrap64 ((Go.bits .and .i64 (Go.bits .xor .i64 ((wrap64 ((wrap64 (s0_2 * 6364136223846793005)) + 1442695040888963407)) / 8589934592) ((wrap64 ((wrap64 (s0_2 * 6364136223846793005)) + 1442695040888963407)) / 140737488355328)) 255) + (wrap64 (rd s0_0 s0_1)))) 255, wrap64 (s0_1 + 1), wrap64 ((wrap64 (s0_2 * 6364136223846793005)) + 1442695040888963407))) else (none)) else (some (Go.bits .and .i64 (Go.bits .xor .i64 ((wrap64 ((wrap64 (s0_2 * 6364136223846793005)) + 1442695040888963407)) / 8589934592) ((wrap64 ((wrap64 (s0_2 * 6364136223846793005)) + 1442695040888963407)) / 140737488355328)) 255, s0_1, wrap64 ((wrap64 (s0_2 * 6364136223846793005)) + 1442695040888963407)))
theorem spec_l1Byte.calls (g : Nat) (s0_0 : List Int) (s0_1 : Int) (s0_2 : Int) (r1 : Int) (r2 : Int) (r3 : Int) (w0 w : World) (hI : IsS64 w0 w g s0_0 s0_1 s0_2) (hB : Below w0.heap.size w0 w) (h : spec_l1Byte.f s0_0 s0_1 s0_2 = some (r1, r2, r3)) :
  Calls Tryd.prog 64 #[.pointer (some ⟨g, 0, none⟩)] w fun e w' => e = .returned (.int .i64 r1) ∧ IsS64 w0 w' g s0_0 r2 r3 ∧ Below w0.heap.size w0 w' ∧ KeepBut w w' g none := by
 have HI0 := Aside0.mk hI
 have HK := Aside0.mk (KeepBut.refl w g none)
 have HL := Aside0.mk hB.size
 clear hI
 have HW0 := Aside0.mk hB.size
 have HB := Aside0.mk hB
 clear hB
 have H : (if s0_1 < (s0_0.length : Int) then (if 0 ≤ s0_1 then (some (Go.bits .and .i64 (wrap64 ((Go.bits .and .i64 (Go.bits .xor .i64 ((wrap64 ((wrap64 (s0_2 * 6364136223846793005)) + 1442695040888963407)) / 8589934592) ((wrap64 ((wrap64 (s0_2 * 6364136223846793005)) + 1442695040888963407)) / 140737488355328)) 255) + (wrap64 (rd s0_0 s0_1)))) 255, wrap64 (s0_1 + 1), wrap64 ((wrap64 (s0_2 * 6364136223846793005)) + 1442695040888963407))) else (none)) else (some (Go.bits .and .i64 (Go.bits .xor .i64 ((wrap64 ((wrap64 (s0_2 * 6364136223846793005)) + 1442695040888963407)) / 8589934592) ((wrap64 ((wrap64 (s0_2 * 6364136223846793005)) + 1442695040888963407)) / 140737488355328)) 255, s0_1, wrap64 ((wrap64 (s0_2 * 6364136223846793005)) + 1442695040888963407)))) = some (r1, r2, r3) := h
 clear h
 by_cases c2 : s0_1 < (s0_0.length : Int)
 ·
  rw [if_pos c2] at H
  have c2b0 := decide_eq_true c2
  clear c2
  by_cases c3 : 0 ≤ s0_1
  ·
   rw [if_pos c3] at H
   have c3b0 := decide_eq_true c3
   clear c3
   simp only [Option.some.injEq, Prod.mk.injEq] at H
   obtain ⟨rfl, rfl, rfl⟩ := H
   obtain ⟨ASz4_0, cSz4_0, HGz4, hgz4, HSz4_0⟩ := HI0.out
   have z4_0 := cellS64_0 HGz4
   have z4_1 := cellS64_1 HGz4
   have z4_2 := cellS64_2 HGz4
   have y4_1 := blk_frozen HGz4 1
   have y4_2 := blk_frozen HGz4 2
   clear HGz4 hgz4
   have p104 : 0 ≤ (s0_1 : Int) := of_decide_eq_true (by with_reducible assumption)
   have q104 : s0_1 < (s0_0.length : Int) := of_decide_eq_true (by with_reducible assumption)
   obtain ⟨ad104, e104, hx104_0⟩ := Kd.at_int HSz4_0 s0_1 p104 q104
   cases e104
   have hn104_0 : ad104.block ≠ g := Nat.ne_of_lt (Nat.lt_of_lt_of_le (by have := World.block_lt_of_cell? _ _ hx104_0; first | rwa [add_block] at this | exact this) (IsS64.ge HI0.out))
   replace hx104_0 := pw_cell_below HB.out hx104_0
   replace hx104_0 := (cell_far (p := ⟨g, 2, none⟩) (by first | (rw [add_block]; exact hn104_0) | (show (Addr.add _ _).block ≠ _; rw [add_block]; exact hn104_0) | exact hn104_0) (.int .i64 (wrap64 ((wrap64 (s0_2 * 6364136223846793005)) + 1442695040888963407)))).trans hx104_0
   (try have hy104_0 := fun (n_ : Nat) => (show (((w.drewN n_).setCell ⟨g, 2, none⟩ (.int .i64 (wrap64 ((wrap64 (s0_2 * 6364136223846793005)) + 1442695040888963407))))).cell? _ = some _ from hx104_0))
   clear hn104_0
   replace p104 := eq_true p104
   replace q104 := eq_true q104
   go_enter Tryd.func64, Tryd.ntmps64
   go_wp2
   repeat (go_quiet (fail); try go_wp2)
   go_ret
   exact an_ ⟨by repeat (first | (with_reducible first | exact HI0.out | apply IsS64.alloc | apply IsS64.drewN | apply IsS64.drew | apply IsS64.set_1 | apply IsS64.set_2) | exact HI0.out), by repeat (first | (with_reducible first | exact HB.out | apply ba_ | apply bn_ | apply bd_ | refine below_set ?_ (IsS64.ge HI0.out)) | exact HB.out), by repeat (first | (with_reducible first | exact HK.out | apply KeepBut.set_ | apply keep_drewN | apply keep_drew | apply keep_alloc) | exact HK.out)⟩
  rw [if_neg c3] at H
  exact absurd H (by simp)
 rw [if_neg c2] at H
 have c2b0 : decide (s0_1 < (s0_0.length : Int)) = false := decide_eq_false c2
 clear c2
 simp only [Option.some.injEq, Prod.mk.injEq] at H
 obtain ⟨rfl, rfl, rfl⟩ := H
 obtain ⟨ASz5_0, cSz5_0, HGz5, hgz5, HSz5_0⟩ := HI0.out
 have z5_0 := cellS64_0 HGz5
 have z5_1 := cellS64_1 HGz5
 have z5_2 := cellS64_2 HGz5
 have y5_1 := blk_frozen HGz5 1
 have y5_2 := blk_frozen HGz5 2
 clear HGz5 hgz5
 go_enter Tryd.func64, Tryd.ntmps64
 go_wp2
 repeat (go_quiet (fail); try go_wp2)
 go_ret
 exact an_ ⟨by repeat (first | (with_reducible first | exact HI0.out | apply IsS64.alloc | apply IsS64.drewN | apply IsS64.drew | apply IsS64.set_1 | apply IsS64.set_2) | exact HI0.out), by repeat (first | (with_reducible first | exact HB.out | apply ba_ | apply bn_ | apply bd_ | refine below_set ?_ (IsS64.ge HI0.out)) | exact HB.out), by repeat (first | (with_reducible first | exact HK.out | apply KeepBut.set_ | apply keep_drewN | apply keep_drew | apply keep_alloc) | exact HK.out)⟩
def spec_l1Below.f (s0_0 : List Int) (s0_1 : Int) (s0_2 : Int) (a1 : Int) : Option (Int × Int × Int) := if a1 ≤ 0 then (some (0, s0_1, s0_2)) else (if a1 ≤ 256 then ((spec_l1Byte.f s0_0 s0_1 s0_2).bind fun bt105 => (if a1 = 0 then (none) else (some (Int.tmod bt105.1 a1, bt105.2.1, bt105.2.2)))) else ((spec_l1Byte.f s0_0 s0_1 s0_2).bind fun bt108 => ((spec_l1Byte.f s0_0 bt108.2.1 bt108.2.2).bind fun bt111 => ((spec_l1Byte.f s0_0 bt111.2.1 bt111.2.2).bind fun bt114 => (if a1 = 0 then (none) else (some (Int.tmod (wrap64 ((wrap64 ((wrap64 (bt108.1 * 65536)) + (wrap64 (bt111.1 * 256)))) + bt114.1)) a1, bt114.2.1, bt114.2.2)))))))
theorem spec_l1Below.calls (g : Nat) (s0_0 : List Int) (s0_1 : Int) (s0_2 : Int) (a1 : Int) (r1 : Int) (r2 : Int) (r3 : Int) (w0 w : World) (hI : IsS64 w0 w g s0_0 s0_1 s0_2) (hB : Below w0.heap.size w0 w) (h : spec_l1Below.f s0_0 s0_1 s0_2 a1 = some (r1, r2, r3)) :
  Calls Tryd.prog 43 #[.pointer (some ⟨g, 0, none⟩), .int .i64 a1] w fun e w' => e = .returned (.int .i64 r1) ∧ IsS64 w0 w' g s0_0 r2 r3 ∧ Below w0.heap.size w0 w' ∧ KeepBut w w' g none := by
 have HI0 := Aside0.mk hI
 have HK := Aside0.mk (KeepBut.refl w g none)
 have HL := Aside0.mk hB.size
 clear hI
 have HW0 := Aside0.mk hB.size
 have HB := Aside0.mk hB
 clear hB
 have H : (if a1 ≤ 0 then (some (0, s0_1, s0_2)) else (if a1 ≤ 256 then ((spec_l1Byte.f s0_0 s0_1 s0_2).bind fun bt105 => (if a1 = 0 then (none) else (some (Int.tmod bt105.1 a1, bt105.2.1, bt105.2.2)))) else ((spec_l1Byte.f s0_0 s0_1 s0_2).bind fun bt108 => ((spec_l1Byte.f s0_0 bt108.2.1 bt108.2.2).bind fun bt111 => ((spec_l1Byte.f s0_0 bt111.2.1 bt111.2.2).bind fun bt114 => (if a1 = 0 then (none) else (some (Int.tmod (wrap64 ((wrap64 ((wrap64 (bt108.1 * 65536)) + (wrap64 (bt111.1 * 256)))) + bt114.1)) a1, bt114.2.1, bt114.2.2)))))))) = some (r1, r2, r3) := h
 clear h
 by_cases c3 : a1 ≤ 0
 ·
  rw [if_pos c3] at H
  have c3b0 := decide_eq_true c3
  clear c3
  simp only [Option.some.injEq, Prod.mk.injEq] at H
  obtain ⟨rfl, rfl, rfl⟩ := H
  go_enter Tryd.func43, Tryd.ntmps43
  go_wp2
  go_ret
  exact an_ ⟨IsS64.pk_ HI0.out, by exact hs_ HB.out, ku_ HK.out⟩
 rw [if_neg c3] at H
 have c3b0 : decide (a1 ≤ 0) = false := decide_eq_false c3
 clear c3
 by_cases c4 : a1 ≤ 256
 ·
  rw [if_pos c4] at H
  have c4b0 := decide_eq_true c4
  clear c4
  replace H := Option.bind_eq_some_iff.mp H
  obtain ⟨⟨t105, t106, t107⟩, A50, H⟩ := H
  have A5 := Aside0.mk A50
  clear A50
  by_cases c6 : a1 = 0
  ·
   rw [if_pos c6] at H
   exact absurd H (by simp)
  rw [if_neg c6] at H
  have c6b0 : (a1 == 0) = false := beq_eq_false_iff_ne.mpr c6
  have c6b1 : (a1 != 0) = true := bne_iff_ne.mpr c6
  simp only [Option.some.injEq, Prod.mk.injEq] at H
  obtain ⟨rfl, rfl, rfl⟩ := H
  go_enter Tryd.func43, Tryd.ntmps43
  go_wp2_with (first | ((with_reducible refine gate_callee (f := 64) rfl ?_); refine gl_ (some 13) Tryd.func64 #[.pointer (some ⟨g, 0, none⟩)] ?_; (with_reducible refine (spec_l1Byte.calls g s0_0 s0_1 s0_2 t105 t106 t107 w0 _ ?side1 ?side2 A5.out).mono ?_); (case side1 => exact IsS64.pk_ HI0.out); (case side2 => exact hs_ HB.out); rintro e w7 ⟨rfl, hi, hb, hk⟩; refine ⟨_, rfl, ?_⟩; replace HK := kh_ HK hk; replace HB := Aside0.mk (hb); replace HI0 := Aside0.mk (hi); (try clear hb); (try clear hk); (try clear hi)))
  go_ret
  exact an_ ⟨IsS64.pk_ HI0.out, by exact hs_ HB.out, ku_ HK.out⟩
 rw [if_neg c4] at H
 have c4b0 : decide (a1 ≤ 256) = false := decide_eq_false c4
 clear c4
 replace H := Option.bind_eq_some_iff.mp H
 obtain ⟨⟨t108, t109, t110⟩, A80, H⟩ := H
 have A8 := Aside0.mk A80
 clear A80
 replace H := Option.bind_eq_some_iff.mp H
 obtain ⟨⟨t111, t112, t113⟩, A90, H⟩ := H
 have A9 := Aside0.mk A90
 clear A90
 replace H := Option.bind_eq_some_iff.mp H
 obtain ⟨⟨t114, t115, t116⟩, A100, H⟩ := H
 have A10 := Aside0.mk A100
 clear A100
 by_cases c11 : a1 = 0
 ·
  rw [if_pos c11] at H
  exact absurd H (by simp)
 rw [if_neg c11] at H
 have c11b0 : (a1 == 0) = false := beq_eq_false_iff_ne.mpr c11
 have c11b1 : (a1 != 0) = true := bne_iff_ne.mpr c11
 simp only [Option.some.injEq, Prod.mk.injEq] at H
 obtain ⟨rfl, rfl, rfl⟩ := H
 go_enter Tryd.func43, Tryd.ntmps43
 go_wp2_with (first | ((with_reducible refine gate_callee (f := 64) rfl ?_); refine gl_ (some 17) Tryd.func64 #[.pointer (some ⟨g, 0, none⟩)] ?_; (with_reducible refine (spec_l1Byte.calls g s0_0 s0_1 s0_2 t108 t109 t110 w0 _ ?side1 ?side2 A8.out).mono ?_); (case side1 => exact IsS64.pk_ HI0.out); (case side2 => exact hs_ HB.out); rintro e w12 ⟨rfl, hi, hb, hk⟩; refine ⟨_, rfl, ?_⟩; replace HK := kh_ HK hk; replace HB := Aside0.mk (hb); replace HI0 := Aside0.mk (hi); (try clear hb); (try clear hk); (try clear hi)) | ((with_reducible refine gate_callee (f := 64) rfl ?_); refine gl_ (some 19) Tryd.func64 #[.pointer (some ⟨g, 0, none⟩)] ?_; (with_reducible refine (spec_l1Byte.calls g s0_0 t109 t110 t111 t112 t113 w0 _ ?side1 ?side2 A9.out).mono ?_); (case side1 => exact IsS64.pk_ HI0.out); (case side2 => exact hs_ HB.out); rintro e w13 ⟨rfl, hi, hb, hk⟩; refine ⟨_, rfl, ?_⟩; replace HK := kh_ HK hk; replace HB := Aside0.mk (hb); replace HI0 := Aside0.mk (hi); (try clear hb); (try clear hk); (try clear hi)) | ((with_reducible refine gate_callee (f := 64) rfl ?_); refine gl_ (some 21) Tryd.func64 #[.pointer (some ⟨g, 0, none⟩)] ?_; (with_reducible refine (spec_l1Byte.calls g s0_0 t112 t113 t114 t115 t116 w0 _ ?side1 ?side2 A10.out).mono ?_); (case side1 => exact IsS64.pk_ HI0.out); (case side2 => exact hs_ HB.out); rintro e w14 ⟨rfl, hi, hb, hk⟩; refine ⟨_, rfl, ?_⟩; replace HK := kh_ HK hk; replace HB := Aside0.mk (hb); replace HI0 := Aside0.mk (hi); (try clear hb); (try clear hk); (try clear hi)))
 go_ret
 exact an_ ⟨IsS64.pk_ HI0.out, by exact hs_ HB.out, ku_ HK.out⟩
def spec_l1Int.f (s0_0 : List Int) (s0_1 : Int) (s0_2 : Int) (l1 : List Int) : Option (Int × Int × Int) := (spec_l1Below.f s0_0 s0_1 s0_2 (l1.length : Int)).bind fun bt117 => (if 0 ≤ bt117.1 then (if bt117.1 < (l1.length : Int) then (some (rd l1 bt117.1, bt117.2.1, bt117.2.2)) else (none)) else (none))
theorem spec_l1Int.calls (g : Nat) (s0_0 : List Int) (s0_1 : Int) (s0_2 : Int) (A1 : Option Addr) (c1 : Nat) (l1 : List Int) (r1 : Int) (r2 : Int) (r3 : Int) (w0 w : World) (hI : IsS64 w0 w g s0_0 s0_1 s0_2) (hB : Below w0.heap.size w0 w) (hr1 : Kd.C (Kd.int .i64) w A1 l1.length l1) (hc1 : l1.length ≤ c1) (hf1 : ∀ ad, A1 = some ad → 0 < l1.length → ad.block ≠ g) (h : spec_l1Int.f s0_0 s0_1 s0_2 l1 = some (r1, r2, r3)) :
  Calls Tryd.prog 28 #[.pointer (some ⟨g, 0, none⟩), .slice A1 l1.length c1] w fun e w' => e = .returned (.int .i64 r1) ∧ IsS64 w0 w' g s0_0 r2 r3 ∧ Below w0.heap.size w0 w' ∧ KeepBut w w' g none := by
 have HR1 := Aside0.mk hr1
 have HC1 := Aside0.mk hc1
 clear hr1 hc1
 have HI0 := Aside0.mk hI
 have HK := Aside0.mk (KeepBut.refl w g none)
 have HL := Aside0.mk hB.size
 clear hI
 have HW0 := Aside0.mk hB.size
 have HB := Aside0.mk hB
 clear hB
 have H : ((spec_l1Below.f s0_0 s0_1 s0_2 (l1.length : Int)).bind fun bt117 => (if 0 ≤ bt117.1 then (if bt117.1 < (l1.length : Int) then (some (rd l1 bt117.1, bt117.2.1, bt117.2.2)) else (none)) else (none))) = some (r1, r2, r3) := h
 clear h
 replace H := Option.bind_eq_some_iff.mp H
 obtain ⟨⟨t117, t118, t119⟩, A30, H⟩ := H
 have A3 := Aside0.mk A30
 clear A30
 by_cases c4 : 0 ≤ t117
 ·
  rw [if_pos c4] at H
  have c4b0 := decide_eq_true c4
  clear c4
  by_cases c5 : t117 < (l1.length : Int)
  ·
   rw [if_pos c5] at H
   have c5b0 := decide_eq_true c5
   clear c5
   simp only [Option.some.injEq, Prod.mk.injEq] at H
   obtain ⟨rfl, rfl, rfl⟩ := H
   go_enter Tryd.func28, Tryd.ntmps28
   go_wp2_with (first | ((with_reducible refine gate_callee (f := 43) rfl ?_); refine gl_ (some 9) Tryd.func43 #[.pointer (some ⟨g, 0, none⟩), .int .i64 (l1.length : Int)] ?_; (with_reducible refine (spec_l1Below.calls g s0_0 s0_1 s0_2 (l1.length : Int) t117 t118 t119 w0 _ ?side1 ?side2 A3.out).mono ?_); (case side1 => exact IsS64.pk_ HI0.out); (case side2 => exact hs_ HB.out); rintro e w6 ⟨rfl, hi, hb, hk⟩; refine ⟨_, rfl, ?_⟩; replace HK := kh_ HK hk; replace HB := Aside0.mk (hb); replace HI0 := Aside0.mk (hi); (try clear hb); (try clear hk); (try clear hi); have p120 : 0 ≤ (t117 : Int) := of_decide_eq_true (by with_reducible assumption); have q120 : t117 < (l1.length : Int) := of_decide_eq_true (by with_reducible assumption); obtain ⟨ad120, e120, hx120_0⟩ := Kd.at_int HR1.out t117 p120 q120; cases e120; replace hx120_0 := keep_cell HK.out hx120_0 (by first | (rw [add_block]; exact hf1 _ rfl (by omega)) | exact hf1 _ rfl (by omega) | exact hf1 ad120 rfl (by omega)); replace p120 := eq_true p120; replace q120 := eq_true q120))
   go_ret
   exact an_ ⟨IsS64.pk_ HI0.out, by exact hs_ HB.out, ku_ HK.out⟩
  rw [if_neg c5] at H
  exact absurd H (by simp)
 rw [if_neg c4] at H
 exact absurd H (by simp)
def spec_l5By.f (s0_0 : List Int) (s0_1 : Int) (s0_2 : Int) : Option (List ByteArray × Int × Int) := (spec_l1Below.f s0_0 s0_1 s0_2 5).bind fun bt121 => (if bt121.1 = 0 then (some ((([] : List ByteArray)), bt121.2.1, bt121.2.2)) else (if bt121.1 = 1 then (some ((([(⟨#[97, 112, 112]⟩ : ByteArray), (⟨#[115, 101, 118]⟩ : ByteArray)] : List ByteArray)), bt121.2.1, bt121.2.2)) else (if bt121.1 = 2 then (some ((([(⟨#[104, 111, 115, 116]⟩ : ByteArray)] : List ByteArray)), bt121.2.1, bt121.2.2)) else (some ((([(⟨#[97, 112, 112]⟩ : ByteArray)] : List ByteArray)), bt121.2.1, bt121.2.2)))))
theorem spec_l5By.calls (g : Nat) (s0_0 : List Int) (s0_1 : Int) (s0_2 : Int) (r1 : List ByteArray) (r2 : Int) (r3 : Int) (w0 w : World) (hI : IsS64 w0 w g s0_0 s0_1 s0_2) (hB : Below w0.heap.size w0 w) (h : spec_l5By.f s0_0 s0_1 s0_2 = some (r1, r2, r3)) :
  Calls Tryd.prog 63 #[.pointer (some ⟨g, 0, none⟩)] w fun e w' => ∃ v0_ : Value, e = .returned (v0_) ∧ Kd.R Kd.string 9 w' w.heap.size (fun _ => True) v0_ r1 ∧ IsS64 w0 w' g s0_0 r2 r3 ∧ Below w0.heap.size w0 w' ∧ KeepBut w w' g none := by
 have HI0 := Aside0.mk hI
 have HK := Aside0.mk (KeepBut.refl w g none)
 have HL := Aside0.mk hB.size
 clear hI
 have HW0 := Aside0.mk hB.size
 have HB := Aside0.mk hB
 clear hB
 have H : ((spec_l1Below.f s0_0 s0_1 s0_2 5).bind fun bt121 => (if bt121.1 = 0 then (some ((([] : List ByteArray)), bt121.2.1, bt121.2.2)) else (if bt121.1 = 1 then (some ((([(⟨#[97, 112, 112]⟩ : ByteArray), (⟨#[115, 101, 118]⟩ : ByteArray)] : List ByteArray)), bt121.2.1, bt121.2.2)) else (if bt121.1 = 2 then (some ((([(⟨#[104, 111, 115, 116]⟩ : ByteArray)] : List ByteArray)), bt121.2.1, bt121.2.2)) else (some ((([(⟨#[97, 112, 112]⟩ : ByteArray)] : List ByteArray)), bt121.2.1, bt121.2.2)))))) = some (r1, r2, r3) := h
 clear h
 replace H := Option.bind_eq_some_iff.mp H
 obtain ⟨⟨t121, t122, t123⟩, A20, H⟩ := H
 have A2 := Aside0.mk A20
 clear A20
 have AHz_ := Aside0.mk H
 clear H
 go_enter Tryd.func63, Tryd.ntmps63
 go_wp2_with (first | (((with_reducible refine gate_callee (f := 43) rfl ?_); refine gl_ (some 4) Tryd.func43 #[.pointer (some ⟨g, 0, none⟩), .int .i64 5] ?_; (with_reducible refine (spec_l1Below.calls g s0_0 s0_1 s0_2 5 t121 t122 t123 w0 _ ?side1 ?side2 A2.out).mono ?_); (case side1 => exact IsS64.pk_ HI0.out); (case side2 => exact hs_ HB.out); rintro e w4 ⟨rfl, hi, hb, hk⟩; refine ⟨_, rfl, ?_⟩; replace HK := kh_ HK hk; replace HB := Aside0.mk (hb); replace HI0 := Aside0.mk (hi); (try clear hb); (try clear hk); (try clear hi)); refine Aside0.out ?_))
 have H := AHz_.out
 clear AHz_
 by_cases c3 : t121 = 0
 ·
  rw [if_pos c3] at H
  have c3b0 : (t121 == 0) = true := beq_iff_eq.mpr c3
  have c3b1 : (t121 != 0) = false := bne_eq_false_iff_eq.mpr c3
  clear c3
  obtain ⟨y124, hy124⟩ : ∃ y_ : List ByteArray, y_ = (([] : List ByteArray)) := ⟨_, rfl⟩
  replace H : (some (y124, t122, t123)) = some (r1, r2, r3) := by first | (rw [hy124]; with_reducible exact H) | (have H2_ := (Option.bind_some _ _).symm.trans H; rw [hy124]; with_reducible exact H2_) | (have H2_ := (Option.bind_some _ _).symm.trans H; with_reducible exact H2_) | with_reducible exact H | (rw [hy124]; exact H) | exact H
  have Ny124 := Aside0.mk hy124
  clear hy124
  simp only [Option.some.injEq, Prod.mk.injEq] at H
  obtain ⟨rfl, rfl, rfl⟩ := H
  refine ⟨?_⟩
  go_wp2_with (first | ((with_reducible refine gd_ 7 rfl ?_); refine Kd.R_lit Kd.string _ 9 ?hg (N := 7) ?hd (xs := ([] : List ByteArray)) (inner := []) (ok := fun _ => True) (okp := fun _ => True) ?hr ?hp (fun _ hk => hk) trivial (Below.refl _ _) (Nat.le_refl _) (by simp) ?_; (case hd => rfl); (case hg => rfl); (case hr => first | (go_simp; done) | (go_simp; rfl)); (case hp => exact (Reps.none _ _)); intro v125 w5 ho6 hb hg_ hnew_; clear hg_ hnew_; (first | rw [← Ny124.out] at ho6 | (simp only [Int.reduceToNat] at ho6; rw [← Ny124.out] at ho6)); have HO126 := rl_ ho6 HK; have n1_ := IsS64.bk_ HI0 hb; have n2_ := kt_ HK hb; have n3_ := st_ HB hb; clear HI0 HK HB; have HI0 := n1_; have HK := n2_; have HB := n3_; clear n1_ n2_ n3_; clear hb ho6))
  go_ret
  exact ⟨_, by first | rfl | (simp [errW_none, errW_some] <;> rfl) | (simp [*, errW_none, errW_some] <;> rfl), by (with_reducible repeat (first | apply Kd.R_alloc | apply Kd.R_drewN | apply Kd.R_drew)); exact HO126.out, IsS64.pk_ HI0.out, by exact hs_ HB.out, ku_ HK.out⟩
 rw [if_neg c3] at H
 have c3b0 : (t121 == 0) = false := beq_eq_false_iff_ne.mpr c3
 have c3b1 : (t121 != 0) = true := bne_iff_ne.mpr c3
 by_cases c7 : t121 = 1
 ·
  rw [if_pos c7] at H
  have c7b0 : (t121 == 1) = true := beq_iff_eq.mpr c7
  have c7b1 : (t121 != 1) = false := bne_eq_false_iff_eq.mpr c7
  clear c7
  obtain ⟨y127, hy127⟩ : ∃ y_ : List ByteArray, y_ = (([(⟨#[97, 112, 112]⟩ : ByteArray), (⟨#[115, 101, 118]⟩ : ByteArray)] : List ByteArray)) := ⟨_, rfl⟩
  replace H : (some (y127, t122, t123)) = some (r1, r2, r3) := by first | (rw [hy127]; with_reducible exact H) | (have H2_ := (Option.bind_some _ _).symm.trans H; rw [hy127]; with_reducible exact H2_) | (have H2_ := (Option.bind_some _ _).symm.trans H; with_reducible exact H2_) | with_reducible exact H | (rw [hy127]; exact H) | exact H
  have Ny127 := Aside0.mk hy127
  clear hy127
  simp only [Option.some.injEq, Prod.mk.injEq] at H
  obtain ⟨rfl, rfl, rfl⟩ := H
  refine ⟨?_⟩
  go_wp2_with (first | ((with_reducible refine gd_ 10 rfl ?_); refine Kd.R_lit Kd.string _ 9 ?hg (N := 10) ?hd (xs := ([(⟨#[97, 112, 112]⟩ : ByteArray), (⟨#[115, 101, 118]⟩ : ByteArray)] : List ByteArray)) (inner := [.string (⟨#[97, 112, 112]⟩ : ByteArray), .string (⟨#[115, 101, 118]⟩ : ByteArray)]) (ok := fun _ => True) (okp := fun _ => True) ?hr ?hp (fun _ hk => hk) trivial (Below.refl _ _) (Nat.le_refl _) (by simp) ?_; (case hd => rfl); (case hg => rfl); (case hr => first | (go_simp; done) | (go_simp; rfl)); (case hp => exact (Reps.one (show Kd.M Kd.string _ _ _ (⟨#[97, 112, 112]⟩ : ByteArray) [.string (⟨#[97, 112, 112]⟩ : ByteArray)] from rfl) (Reps.one (show Kd.M Kd.string _ _ _ (⟨#[115, 101, 118]⟩ : ByteArray) [.string (⟨#[115, 101, 118]⟩ : ByteArray)] from rfl) (Reps.none _ _)))); intro v128 w9 ho10 hb hg_ hnew_; clear hg_ hnew_; (first | rw [← Ny127.out] at ho10 | (simp only [Int.reduceToNat] at ho10; rw [← Ny127.out] at ho10)); have HO129 := rl_ ho10 HK; have n1_ := IsS64.bk_ HI0 hb; have n2_ := kt_ HK hb; have n3_ := st_ HB hb; clear HI0 HK HB; have HI0 := n1_; have HK := n2_; have HB := n3_; clear n1_ n2_ n3_; clear hb ho10))
  go_ret
  exact ⟨_, by first | rfl | (simp [errW_none, errW_some] <;> rfl) | (simp [*, errW_none, errW_some] <;> rfl), by (with_reducible repeat (first | apply Kd.R_alloc | apply Kd.R_drewN | apply Kd.R_drew)); exact HO129.out, IsS64.pk_ HI0.out, by exact hs_ HB.out, ku_ HK.out⟩
 rw [if_neg c7] at H
 have c7b0 : (t121 == 1) = false := beq_eq_false_iff_ne.mpr c7
 have c7b1 : (t121 != 1) = true := bne_iff_ne.mpr c7
 by_cases c11 : t121 = 2
 ·
  rw [if_pos c11] at H
  have c11b0 : (t121 == 2) = true := beq_iff_eq.mpr c11
  have c11b1 : (t121 != 2) = false := bne_eq_false_iff_eq.mpr c11
  clear c11
  obtain ⟨y130, hy130⟩ : ∃ y_ : List ByteArray, y_ = (([(⟨#[104, 111, 115, 116]⟩ : ByteArray)] : List ByteArray)) := ⟨_, rfl⟩
  replace H : (some (y130, t122, t123)) = some (r1, r2, r3) := by first | (rw [hy130]; with_reducible exact H) | (have H2_ := (Option.bind_some _ _).symm.trans H; rw [hy130]; with_reducible exact H2_) | (have H2_ := (Option.bind_some _ _).symm.trans H; with_reducible exact H2_) | with_reducible exact H | (rw [hy130]; exact H) | exact H
  have Ny130 := Aside0.mk hy130
  clear hy130
  simp only [Option.some.injEq, Prod.mk.injEq] at H
  obtain ⟨rfl, rfl, rfl⟩ := H
  refine ⟨?_⟩
  go_wp2_with (first | ((with_reducible refine gd_ 13 rfl ?_); refine Kd.R_lit Kd.string _ 9 ?hg (N := 13) ?hd (xs := ([(⟨#[104, 111, 115, 116]⟩ : ByteArray)] : List ByteArray)) (inner := [.string (⟨#[104, 111, 115, 116]⟩ : ByteArray)]) (ok := fun _ => True) (okp := fun _ => True) ?hr ?hp (fun _ hk => hk) trivial (Below.refl _ _) (Nat.le_refl _) (by simp) ?_; (case hd => rfl); (case hg => rfl); (case hr => first | (go_simp; done) | (go_simp; rfl)); (case hp => exact (Reps.one (show Kd.M Kd.string _ _ _ (⟨#[104, 111, 115, 116]⟩ : ByteArray) [.string (⟨#[104, 111, 115, 116]⟩ : ByteArray)] from rfl) (Reps.none _ _))); intro v131 w13 ho14 hb hg_ hnew_; clear hg_ hnew_; (first | rw [← Ny130.out] at ho14 | (simp only [Int.reduceToNat] at ho14; rw [← Ny130.out] at ho14)); have HO132 := rl_ ho14 HK; have n1_ := IsS64.bk_ HI0 hb; have n2_ := kt_ HK hb; have n3_ := st_ HB hb; clear HI0 HK HB; have HI0 := n1_; have HK := n2_; have HB := n3_; clear n1_ n2_ n3_; clear hb ho14))
  go_ret
  exact ⟨_, by first | rfl | (simp [errW_none, errW_some] <;> rfl) | (simp [*, errW_none, errW_some] <;> rfl), by (with_reducible repeat (first | apply Kd.R_alloc | apply Kd.R_drewN | apply Kd.R_drew)); exact HO132.out, IsS64.pk_ HI0.out, by exact hs_ HB.out, ku_ HK.out⟩
 rw [if_neg c11] at H
 have c11b0 : (t121 == 2) = false := beq_eq_false_iff_ne.mpr c11
 have c11b1 : (t121 != 2) = true := bne_iff_ne.mpr c11
 obtain ⟨y133, hy133⟩ : ∃ y_ : List ByteArray, y_ = (([(⟨#[97, 112, 112]⟩ : ByteArray)] : List ByteArray)) := ⟨_, rfl⟩
 replace H : (some (y133, t122, t123)) = some (r1, r2, r3) := by first | (rw [hy133]; with_reducible exact H) | (have H2_ := (Option.bind_some _ _).symm.trans H; rw [hy133]; with_reducible exact H2_) | (have H2_ := (Option.bind_some _ _).symm.trans H; with_reducible exact H2_) | with_reducible exact H | (rw [hy133]; exact H) | exact H
 have Ny133 := Aside0.mk hy133
 clear hy133
 simp only [Option.some.injEq, Prod.mk.injEq] at H
 obtain ⟨rfl, rfl, rfl⟩ := H
 refine ⟨?_⟩
 go_wp2_with (first | ((with_reducible refine gd_ 14 rfl ?_); refine Kd.R_lit Kd.string _ 9 ?hg (N := 14) ?hd (xs := ([(⟨#[97, 112, 112]⟩ : ByteArray)] : List ByteArray)) (inner := [.string (⟨#[97, 112, 112]⟩ : ByteArray)]) (ok := fun _ => True) (okp := fun _ => True) ?hr ?hp (fun _ hk => hk) trivial (Below.refl _ _) (Nat.le_refl _) (by simp) ?_; (case hd => rfl); (case hg => rfl); (case hr => first | (go_simp; done) | (go_simp; rfl)); (case hp => exact (Reps.one (show Kd.M Kd.string _ _ _ (⟨#[97, 112, 112]⟩ : ByteArray) [.string (⟨#[97, 112, 112]⟩ : ByteArray)] from rfl) (Reps.none _ _))); intro v134 w16 ho17 hb hg_ hnew_; clear hg_ hnew_; (first | rw [← Ny133.out] at ho17 | (simp only [Int.reduceToNat] at ho17; rw [← Ny133.out] at ho17)); have HO135 := rl_ ho17 HK; have n1_ := IsS64.bk_ HI0 hb; have n2_ := kt_ HK hb; have n3_ := st_ HB hb; clear HI0 HK HB; have HI0 := n1_; have HK := n2_; have HB := n3_; clear n1_ n2_ n3_; clear hb ho17))
 go_ret
 exact ⟨_, by first | rfl | (simp [errW_none, errW_some] <;> rfl) | (simp [*, errW_none, errW_some] <;> rfl), by (with_reducible repeat (first | apply Kd.R_alloc | apply Kd.R_drewN | apply Kd.R_drew)); exact HO135.out, IsS64.pk_ HI0.out, by exact hs_ HB.out, ku_ HK.out⟩
def spec_l13Draw.f (s0_0 : List Int) (s0_1 : Int) (s0_2 : Int) : Option (Int × Int × Int × Int × Int × List ByteArray × Int × Int) := (spec_l1Below.f s0_0 s0_1 s0_2 3).bind fun bt137 => ((spec_l1Int.f s0_0 bt137.2.1 bt137.2.2 (([1, 2, 4, 8] : List Int))).bind fun bt143 => ((spec_l1Below.f s0_0 bt143.2.1 bt143.2.2 2).bind fun bt146 => ((spec_l1Below.f s0_0 bt146.2.1 bt146.2.2 3).bind fun bt149 => ((spec_l1Below.f s0_0 bt149.2.1 bt149.2.2 4).bind fun bt152 => ((spec_l5By.f s0_0 bt152.2.1 bt152.2.2).bind fun bt155 => (some (wrap64 (1 + bt137.1), bt143.1, wrap64 (1 + bt146.1), wrap64 (1 + bt149.1), wrap64 (1 + bt152.1), bt155.1, bt155.2.1, bt155.2.2)))))))
theorem spec_l13Draw.calls (g : Nat) (s0_0 : List Int) (s0_1 : Int) (s0_2 : Int) (r1 : Int) (r2 : Int) (r3 : Int) (r4 : Int) (r5 : Int) (r6 : List ByteArray) (r7 : Int) (r8 : Int) (w0 w : World) (hI : IsS64 w0 w g s0_0 s0_1 s0_2) (hB : Below w0.heap.size w0 w) (h : spec_l13Draw.f s0_0 s0_1 s0_2 = some (r1, r2, r3, r4, r5, r6, r7, r8)) :
  Calls Tryd.prog 42 #[.pointer (some ⟨g, 0, none⟩)] w fun e w' => ∃ v5_ : Value, e = .returned (.agg #[.int .i64 r1, .int .i64 r2, .int .i64 r3, .int .i64 r4, .int .i64 r5, v5_]) ∧ Kd.R Kd.string 9 w' w.heap.size (fun _ => True) v5_ r6 ∧ IsS64 w0 w' g s0_0 r7 r8 ∧ Below w0.heap.size w0 w' ∧ KeepBut w w' g none := by
 have hu26 := Tryd.underlying26
 have HI0 := Aside0.mk hI
 have HK := Aside0.mk (KeepBut.refl w g none)
 have HL := Aside0.mk hB.size
 clear hI
 have HW0 := Aside0.mk hB.size
 have HB := Aside0.mk hB
 clear hB
 have H : ((spec_l1Below.f s0_0 s0_1 s0_2 3).bind fun bt137 => ((spec_l1Int.f s0_0 bt137.2.1 bt137.2.2 (([1, 2, 4, 8] : List Int))).bind fun bt143 => ((spec_l1Below.f s0_0 bt143.2.1 bt143.2.2 2).bind fun bt146 => ((spec_l1Below.f s0_0 bt146.2.1 bt146.2.2 3).bind fun bt149 => ((spec_l1Below.f s0_0 bt149.2.1 bt149.2.2 4).bind fun bt152 => ((spec_l5By.f s0_0 bt152.2.1 bt152.2.2).bind fun bt155 => (some (wrap64 (1 + bt137.1), bt143.1, wrap64 (1 + bt146.1), wrap64 (1 + bt149.1), wrap64 (1 + bt152.1), bt155.1, bt155.2.1, bt155.2.2)))))))) = some (r1, r2, r3, r4, r5, r6, r7, r8) := h
 clear h
 replace H := Option.bind_eq_some_iff.mp H
 obtain ⟨⟨t137, t138, t139⟩, A20, H⟩ := H
 have A2 := Aside0.mk A20
 clear A20
 obtain ⟨y140, hy140⟩ : ∃ y_ : List Int, y_ = (([1, 2, 4, 8] : List Int)) := ⟨_, rfl⟩
 replace H : ((spec_l1Int.f s0_0 t138 t139 y140).bind fun bt143 => ((spec_l1Below.f s0_0 bt143.2.1 bt143.2.2 2).bind fun bt146 => ((spec_l1Below.f s0_0 bt146.2.1 bt146.2.2 3).bind fun bt149 => ((spec_l1Below.f s0_0 bt149.2.1 bt149.2.2 4).bind fun bt152 => ((spec_l5By.f s0_0 bt152.2.1 bt152.2.2).bind fun bt155 => (some (wrap64 (1 + t137), bt143.1, wrap64 (1 + bt146.1), wrap64 (1 + bt149.1), wrap64 (1 + bt152.1), bt155.1, bt155.2.1, bt155.2.2))))))) = some (r1, r2, r3, r4, r5, r6, r7, r8) := by first | (rw [hy140]; with_reducible exact H) | (have H2_ := (Option.bind_some _ _).symm.trans H; rw [hy140]; with_reducible exact H2_) | (have H2_ := (Option.bind_some _ _).symm.trans H; with_reducible exact H2_) | with_reducible exact H | (rw [hy140]; exact H) | exact H
 have Ny140 := Aside0.mk hy140
 clear hy140
 replace H := Option.bind_eq_some_iff.mp H
 obtain ⟨⟨t143, t144, t145⟩, A30, H⟩ := H
 have A3 := Aside0.mk A30
 clear A30
 replace H := Option.bind_eq_some_iff.mp H
 obtain ⟨⟨t146, t147, t148⟩, A40, H⟩ := H
 have A4 := Aside0.mk A40
 clear A40
 replace H := Option.bind_eq_some_iff.mp H
 obtain ⟨⟨t149, t150, t151⟩, A50, H⟩ := H
 have A5 := Aside0.mk A50
 clear A50
 replace H := Option.bind_eq_some_iff.mp H
 obtain ⟨⟨t152, t153, t154⟩, A60, H⟩ := H
 have A6 := Aside0.mk A60
 clear A60
 replace H := Option.bind_eq_some_iff.mp H
 obtain ⟨⟨t155, t158, t159⟩, A70, H⟩ := H
 have A7 := Aside0.mk A70
 clear A70
 simp only [Option.some.injEq, Prod.mk.injEq] at H
 obtain ⟨rfl, rfl, rfl, rfl, rfl, rfl, rfl, rfl⟩ := H
 go_enter Tryd.func42, Tryd.ntmps42
 go_wp2_with (first | ((with_reducible refine gd_ 2 rfl ?_); refine bv_ 2 #[.int .i64 0, .int .i64 0, .int .i64 0, .int .i64 0, .int .i64 0, .slice none 0 0] 26 ?_; intro gb136 hg w8 hbox hb; replace HB := st_ HB hb; have BK136 := Aside0.mk (hbox); have GW136 := Ge_.mk ((by rw [hg]; exact (ks_ HK) : w.heap.size ≤ gb136)); replace HK := kt_ HK hb; have GE136 := gt_ HW0 GW136; have NB0_136 := IsS64.nl_ HI0 hg; replace HI0 := IsS64.bk_ HI0 hb; have NB136_0 := ns_ NB0_136; clear hb hbox hg) | ((with_reducible refine gate_callee (f := 43) rfl ?_); refine gl_ (some 4) Tryd.func43 #[.pointer (some ⟨g, 0, none⟩), .int .i64 3] ?_; (with_reducible refine (spec_l1Below.calls g s0_0 s0_1 s0_2 3 t137 t138 t139 w0 _ ?side1 ?side2 A2.out).mono ?_); (case side1 => exact IsS64.pk_ HI0.out); (case side2 => exact hs_ HB.out); rintro e w9 ⟨rfl, hi, hb, hk⟩; refine ⟨_, rfl, ?_⟩; replace BK136 := kb_ hk BK136; replace HK := kh_ HK hk; replace HB := Aside0.mk (hb); replace HI0 := Aside0.mk (hi); (try clear hb); (try clear hk); (try clear hi)) | ((with_reducible refine gd_ 7 rfl ?_); refine Kd.R_lit (Kd.int .i64) _ 3 ?hg (N := 7) ?hd (xs := ([1, 2, 4, 8] : List Int)) (inner := [.int .i64 1, .int .i64 2, .int .i64 4, .int .i64 8]) (ok := fun _ => True) (okp := fun _ => True) ?hr ?hp (fun _ hk => hk) trivial (Below.refl _ _) (Nat.le_refl _) (by simp) ?_; (case hd => rfl); (case hg => rfl); (case hr => first | (go_simp; done) | (go_simp; rfl)); (case hp => exact (Reps.one (show Kd.M (Kd.int .i64) _ _ _ 1 [.int .i64 1] from rfl) (Reps.one (show Kd.M (Kd.int .i64) _ _ _ 2 [.int .i64 2] from rfl) (Reps.one (show Kd.M (Kd.int .i64) _ _ _ 4 [.int .i64 4] from rfl) (Reps.one (show Kd.M (Kd.int .i64) _ _ _ 8 [.int .i64 8] from rfl) (Reps.none _ _)))))); intro v141 w10 ho11 hb hg_ hnew_; clear hg_ hnew_; (first | rw [← Ny140.out] at ho11 | (simp only [Int.reduceToNat] at ho11; rw [← Ny140.out] at ho11)); have HO142 := rl_ ho11 HK; replace HI0 := IsS64.bk_ HI0 hb; replace BK136 := bk2_ BK136 hb; replace HK := kt_ HK hb; replace HB := st_ HB hb; clear hb ho11; obtain ⟨Ao12, co12, eo12⟩ := Kd.R_slice HO142.out; subst eo12) | ((with_reducible refine gate_callee (f := 28) rfl ?_); refine gl_ (some 8) Tryd.func28 #[.pointer (some ⟨g, 0, none⟩), .slice Ao12 y140.length co12] ?_; (with_reducible refine (spec_l1Int.calls g s0_0 t138 t139 _ _ y140 t143 t144 t145 w0 _ ?side1 ?side2 ?side3 ?side4 ?side5 A3.out).mono ?_); (case side1 => exact IsS64.pk_ HI0.out); (case side2 => exact hs_ HB.out); (case side3 => exact cp_ ((Kd.R_reads' HO142.out).2.2)); (case side4 => exact (Kd.R_reads' HO142.out).2.1); (case side5 => exact far_slice (IsS64.own_ne HI0.out HO142.out (by decide))); rintro e w13 ⟨rfl, hi, hb, hk⟩; refine ⟨_, rfl, ?_⟩; replace BK136 := kb_ hk BK136; replace HO142 := IsS64.rk_ HI0 HO142 hk; replace HK := kh_ HK hk; replace HB := Aside0.mk (hb); replace HI0 := Aside0.mk (hi); (try clear hb); (try clear hk); (try clear hi)) | ((with_reducible refine gate_callee (f := 43) rfl ?_); refine gl_ (some 10) Tryd.func43 #[.pointer (some ⟨g, 0, none⟩), .int .i64 2] ?_; (with_reducible refine (spec_l1Below.calls g s0_0 t144 t145 2 t146 t147 t148 w0 _ ?side1 ?side2 A4.out).mono ?_); (case side1 => exact IsS64.pk_ HI0.out); (case side2 => exact hs_ HB.out); rintro e w14 ⟨rfl, hi, hb, hk⟩; refine ⟨_, rfl, ?_⟩; replace BK136 := kb_ hk BK136; replace HO142 := IsS64.rk_ HI0 HO142 hk; replace HK := kh_ HK hk; replace HB := Aside0.mk (hb); replace HI0 := Aside0.mk (hi); (try clear hb); (try clear hk); (try clear hi)) | ((with_reducible refine gate_callee (f := 43) rfl ?_); refine gl_ (some 13) Tryd.func43 #[.pointer (some ⟨g, 0, none⟩), .int .i64 3] ?_; (with_reducible refine (spec_l1Below.calls g s0_0 t147 t148 3 t149 t150 t151 w0 _ ?side1 ?side2 A5.out).mono ?_); (case side1 => exact IsS64.pk_ HI0.out); (case side2 => exact hs_ HB.out); rintro e w15 ⟨rfl, hi, hb, hk⟩; refine ⟨_, rfl, ?_⟩; replace BK136 := kb_ hk BK136; replace HO142 := IsS64.rk_ HI0 HO142 hk; replace HK := kh_ HK hk; replace HB := Aside0.mk (hb); replace HI0 := Aside0.mk (hi); (try clear hb); (try clear hk); (try clear hi)) | ((with_reducible refine gate_callee (f := 43) rfl ?_); refine gl_ (some 16) Tryd.func43 #[.pointer (some ⟨g, 0, none⟩), .int .i64 4] ?_; (with_reducible refine (spec_l1Below.calls g s0_0 t150 t151 4 t152 t153 t154 w0 _ ?side1 ?side2 A6.out).mono ?_); (case side1 => exact IsS64.pk_ HI0.out); (case side2 => exact hs_ HB.out); rintro e w16 ⟨rfl, hi, hb, hk⟩; refine ⟨_, rfl, ?_⟩; replace BK136 := kb_ hk BK136; replace HO142 := IsS64.rk_ HI0 HO142 hk; replace HK := kh_ HK hk; replace HB := Aside0.mk (hb); replace HI0 := Aside0.mk (hi); (try clear hb); (try clear hk); (try clear hi)) | ((with_reducible refine gate_callee (f := 63) rfl ?_); refine gl_ (some 19) Tryd.func63 #[.pointer (some ⟨g, 0, none⟩)] ?_; (with_reducible refine (spec_l5By.calls g s0_0 t153 t154 t155 t158 t159 w0 _ ?side1 ?side2 A7.out).mono ?_); (case side1 => exact IsS64.pk_ HI0.out); (case side2 => exact hs_ HB.out); rintro e w17 ⟨v156, rfl, ho0, hi, hb, hk⟩; refine ⟨_, rfl, ?_⟩; replace BK136 := kb_ hk BK136; replace HO142 := IsS64.rk_ HI0 HO142 hk; have HO157 := rl_ ho0 HK; replace HK := kh_ HK hk; replace HB := Aside0.mk (hb); replace HI0 := Aside0.mk (hi); (try clear hb); (try clear hk); (try clear hi); (try clear ho0); obtain ⟨Ao18, co18, eo18⟩ := Kd.R_slice HO157.out; subst eo18; have hnb19 := NB136_0.out; have hnc19 := NB0_136.out; obtain ⟨z20_0, z20_1, z20_2, z20_3, z20_4, z20_5, y20_0, y20_1, y20_2, y20_3, y20_4, y20_5⟩ := bc6_ BK136.out))
 refine bodyPost_ret (results_cell_row rfl _ _ gb136 26 #[.int .i64 (wrap64 (1 + t137)), .int .i64 t143, .int .i64 (wrap64 (1 + t146)), .int .i64 (wrap64 (1 + t149)), .int .i64 (wrap64 (1 + t152)), .slice Ao18 t155.length co18] (0, 0) _ rfl (bp_ BK136.out) Tryd.underlying26 rfl (by kernel_rfl)) rfl ?_
 exact ⟨_, by first | rfl | (simp [errW_none, errW_some] <;> rfl) | (simp [*, errW_none, errW_some] <;> rfl), by (with_reducible repeat (first | apply Kd.R_alloc | apply Kd.R_drewN | apply Kd.R_drew)); exact Kd.R_mono (rf_ gb136 (Kd.R_types HO157.out BK136.out (by decide)) (fun _ hk => hk.2)) (fun _ hk => trivial), IsS64.pk_ HI0.out, by exact hs_ HB.out, ku_ HK.out⟩
def spec_l1Once.f (s0_0 : List Int) (s0_1 : Int) (s0_2 : Int) (a1 : Int) : Option (Bool × Int × Int) := (spec_l1Below.f s0_0 s0_1 s0_2 a1).bind fun bt160 => (some ((bt160.1 == 0), bt160.2.1, bt160.2.2))
theorem spec_l1Once.calls (g : Nat) (s0_0 : List Int) (s0_1 : Int) (s0_2 : Int) (a1 : Int) (r1 : Bool) (r2 : Int) (r3 : Int) (w0 w : World) (hI : IsS64 w0 w g s0_0 s0_1 s0_2) (hB : Below w0.heap.size w0 w) (h : spec_l1Once.f s0_0 s0_1 s0_2 a1 = some (r1, r2, r3)) :
  Calls Tryd.prog 24 #[.pointer (some ⟨g, 0, none⟩), .int .i64 a1] w fun e w' => e = .returned (.bool r1) ∧ IsS64 w0 w' g s0_0 r2 r3 ∧ Below w0.heap.size w0 w' ∧ KeepBut w w' g none := by
 have HI0 := Aside0.mk hI
 have HK := Aside0.mk (KeepBut.refl w g none)
 have HL := Aside0.mk hB.size
 clear hI
 have HW0 := Aside0.mk hB.size
 have HB := Aside0.mk hB
 clear hB
 have H : ((spec_l1Below.f s0_0 s0_1 s0_2 a1).bind fun bt160 => (some ((bt160.1 == 0), bt160.2.1, bt160.2.2))) = some (r1, r2, r3) := h
 clear h
 replace H := Option.bind_eq_some_iff.mp H
 obtain ⟨⟨t160, t161, t162⟩, A30, H⟩ := H
 have A3 := Aside0.mk A30
 clear A30
 simp only [Option.some.injEq, Prod.mk.injEq] at H
 obtain ⟨rfl, rfl, rfl⟩ := H
 go_enter Tryd.func24, Tryd.ntmps24
 go_wp2_with (first | ((with_reducible refine gate_callee (f := 43) rfl ?_); refine gl_ (some 7) Tryd.func43 #[.pointer (some ⟨g, 0, none⟩), .int .i64 a1] ?_; (with_reducible refine (spec_l1Below.calls g s0_0 s0_1 s0_2 a1 t160 t161 t162 w0 _ ?side1 ?side2 A3.out).mono ?_); (case side1 => exact IsS64.pk_ HI0.out); (case side2 => exact hs_ HB.out); rintro e w4 ⟨rfl, hi, hb, hk⟩; refine ⟨_, rfl, ?_⟩; replace HK := kh_ HK hk; replace HB := Aside0.mk (hb); replace HI0 := Aside0.mk (hi); (try clear hb); (try clear hk); (try clear hi)))
 go_ret
 exact an_ ⟨IsS64.pk_ HI0.out, by exact hs_ HB.out, ku_ HK.out⟩
def spec_l1Str.f (s0_0 : List Int) (s0_1 : Int) (s0_2 : Int) (l1 : List ByteArray) : Option (ByteArray × Int × Int) := (spec_l1Below.f s0_0 s0_1 s0_2 (l1.length : Int)).bind fun bt163 => (if 0 ≤ bt163.1 then (if bt163.1 < (l1.length : Int) then (some (rdOf ByteArray.empty l1 bt163.1, bt163.2.1, bt163.2.2)) else (none)) else (none))
theorem spec_l1Str.calls (g : Nat) (s0_0 : List Int) (s0_1 : Int) (s0_2 : Int) (A1 : Option Addr) (c1 : Nat) (l1 : List ByteArray) (r1 : ByteArray) (r2 : Int) (r3 : Int) (w0 w : World) (hI : IsS64 w0 w g s0_0 s0_1 s0_2) (hB : Below w0.heap.size w0 w) (hr1 : Kd.C Kd.string w A1 l1.length l1) (hc1 : l1.length ≤ c1) (hf1 : ∀ ad, A1 = some ad → 0 < l1.length → ad.block ≠ g) (h : spec_l1Str.f s0_0 s0_1 s0_2 l1 = some (r1, r2, r3)) :
  Calls Tryd.prog 75 #[.pointer (some ⟨g, 0, none⟩), .slice A1 l1.length c1] w fun e w' => e = .returned (.string r1) ∧ IsS64 w0 w' g s0_0 r2 r3 ∧ Below w0.heap.size w0 w' ∧ KeepBut w w' g none := by
 have HR1 := Aside0.mk hr1
 have HC1 := Aside0.mk hc1
 clear hr1 hc1
 have HI0 := Aside0.mk hI
 have HK := Aside0.mk (KeepBut.refl w g none)
 have HL := Aside0.mk hB.size
 clear hI
 have HW0 := Aside0.mk hB.size
 have HB := Aside0.mk hB
 clear hB
 have H : ((spec_l1Below.f s0_0 s0_1 s0_2 (l1.length : Int)).bind fun bt163 => (if 0 ≤ bt163.1 then (if bt163.1 < (l1.length : Int) then (some (rdOf ByteArray.empty l1 bt163.1, bt163.2.1, bt163.2.2)) else (none)) else (none))) = some (r1, r2, r3) := h
 clear h
 replace H := Option.bind_eq_some_iff.mp H
 obtain ⟨⟨t163, t164, t165⟩, A30, H⟩ := H
 have A3 := Aside0.mk A30
 clear A30
 by_cases c4 : 0 ≤ t163
 ·
  rw [if_pos c4] at H
  have c4b0 := decide_eq_true c4
  clear c4
  by_cases c5 : t163 < (l1.length : Int)
  ·
   rw [if_pos c5] at H
   have c5b0 := decide_eq_true c5
   clear c5
   simp only [Option.some.injEq, Prod.mk.injEq] at H
   obtain ⟨rfl, rfl, rfl⟩ := H
   go_enter Tryd.func75, Tryd.ntmps75
   go_wp2_with (first | ((with_reducible refine gate_callee (f := 43) rfl ?_); refine gl_ (some 9) Tryd.func43 #[.pointer (some ⟨g, 0, none⟩), .int .i64 (l1.length : Int)] ?_; (with_reducible refine (spec_l1Below.calls g s0_0 s0_1 s0_2 (l1.length : Int) t163 t164 t165 w0 _ ?side1 ?side2 A3.out).mono ?_); (case side1 => exact IsS64.pk_ HI0.out); (case side2 => exact hs_ HB.out); rintro e w6 ⟨rfl, hi, hb, hk⟩; refine ⟨_, rfl, ?_⟩; replace HK := kh_ HK hk; replace HB := Aside0.mk (hb); replace HI0 := Aside0.mk (hi); (try clear hb); (try clear hk); (try clear hi); have p166 : 0 ≤ (t163 : Int) := of_decide_eq_true (by with_reducible assumption); have q166 : t163 < (l1.length : Int) := of_decide_eq_true (by with_reducible assumption); obtain ⟨ad166, e166, hx166_0⟩ := Kd.at_string HR1.out t163 p166 q166; cases e166; replace hx166_0 := keep_cell HK.out hx166_0 (by first | (rw [add_block]; exact hf1 _ rfl (by omega)) | exact hf1 _ rfl (by omega) | exact hf1 ad166 rfl (by omega)); replace p166 := eq_true p166; replace q166 := eq_true q166))
   go_ret
   exact an_ ⟨IsS64.pk_ HI0.out, by exact hs_ HB.out, ku_ HK.out⟩
  rw [if_neg c5] at H
  exact absurd H (by simp)
 rw [if_neg c4] at H
 exact absurd H (by simp)
def spec_l1Names.f (s0_0 : List Int) (s0_1 : Int) (s0_2 : Int) : Option (ByteArray × Int × Int) := (spec_l1Str.f s0_0 s0_1 s0_2 (([(⟨#[97, 112, 112]⟩ : ByteArray), (⟨#[104, 111, 115, 116]⟩ : ByteArray), (⟨#[115, 101, 118]⟩ : ByteArray), (⟨#[122, 111, 110, 101]⟩ : ByteArray)] : List ByteArray))).bind fun bt170 => (some (bt170.1, bt170.2.1, bt170.2.2))
theorem spec_l1Names.calls (g : Nat) (s0_0 : List Int) (s0_1 : Int) (s0_2 : Int) (r1 : ByteArray) (r2 : Int) (r3 : Int) (w0 w : World) (hI : IsS64 w0 w g s0_0 s0_1 s0_2) (hB : Below w0.heap.size w0 w) (h : spec_l1Names.f s0_0 s0_1 s0_2 = some (r1, r2, r3)) :
  Calls Tryd.prog 81 #[.pointer (some ⟨g, 0, none⟩)] w fun e w' => e = .returned (.string r1) ∧ IsS64 w0 w' g s0_0 r2 r3 ∧ Below w0.heap.size w0 w' ∧ KeepBut w w' g none := by
 have HI0 := Aside0.mk hI
 have HK := Aside0.mk (KeepBut.refl w g none)
 have HL := Aside0.mk hB.size
 clear hI
 have HW0 := Aside0.mk hB.size
 have HB := Aside0.mk hB
 clear hB
 have H : ((spec_l1Str.f s0_0 s0_1 s0_2 (([(⟨#[97, 112, 112]⟩ : ByteArray), (⟨#[104, 111, 115, 116]⟩ : ByteArray), (⟨#[115, 101, 118]⟩ : ByteArray), (⟨#[122, 111, 110, 101]⟩ : ByteArray)] : List ByteArray))).bind fun bt170 => (some (bt170.1, bt170.2.1, bt170.2.2))) = some (r1, r2, r3) := h
 clear h
 obtain ⟨y167, hy167⟩ : ∃ y_ : List ByteArray, y_ = (([(⟨#[97, 112, 112]⟩ : ByteArray), (⟨#[104, 111, 115, 116]⟩ : ByteArray), (⟨#[115, 101, 118]⟩ : ByteArray), (⟨#[122, 111, 110, 101]⟩ : ByteArray)] : List ByteArray)) := ⟨_, rfl⟩
 replace H : ((spec_l1Str.f s0_0 s0_1 s0_2 y167).bind fun bt170 => (some (bt170.1, bt170.2.1, bt170.2.2))) = some (r1, r2, r3) := by first | (rw [hy167]; with_reducible exact H) | (have H2_ := (Option.bind_some _ _).symm.trans H; rw [hy167]; with_reducible exact H2_) | (have H2_ := (Option.bind_some _ _).symm.trans H; with_reducible exact H2_) | with_reducible exact H | (rw [hy167]; exact H) | exact H
 have Ny167 := Aside0.mk hy167
 clear hy167
 replace H := Option.bind_eq_some_iff.mp H
 obtain ⟨⟨t170, t171, t172⟩, A20, H⟩ := H
 have A2 := Aside0.mk A20
 clear A20
 simp only [Option.some.injEq, Prod.mk.injEq] at H
 obtain ⟨rfl, rfl, rfl⟩ := H
 go_enter Tryd.func81, Tryd.ntmps81
 go_wp2_with (first | ((with_reducible refine gd_ 4 rfl ?_); refine Kd.R_lit Kd.string _ 9 ?hg (N := 4) ?hd (xs := ([(⟨#[97, 112, 112]⟩ : ByteArray), (⟨#[104, 111, 115, 116]⟩ : ByteArray), (⟨#[115, 101, 118]⟩ : ByteArray), (⟨#[122, 111, 110, 101]⟩ : ByteArray)] : List ByteArray)) (inner := [.string (⟨#[97, 112, 112]⟩ : ByteArray), .string (⟨#[104, 111, 115, 116]⟩ : ByteArray), .string (⟨#[115, 101, 118]⟩ : ByteArray), .string (⟨#[122, 111, 110, 101]⟩ : ByteArray)]) (ok := fun _ => True) (okp := fun _ => True) ?hr ?hp (fun _ hk => hk) trivial (Below.refl _ _) (Nat.le_refl _) (by simp) ?_; (case hd => rfl); (case hg => rfl); (case hr => first | (go_simp; done) | (go_simp; rfl)); (case hp => exact (Reps.one (show Kd.M Kd.string _ _ _ (⟨#[97, 112, 112]⟩ : ByteArray) [.string (⟨#[97, 112, 112]⟩ : ByteArray)] from rfl) (Reps.one (show Kd.M Kd.string _ _ _ (⟨#[104, 111, 115, 116]⟩ : ByteArray) [.string (⟨#[104, 111, 115, 116]⟩ : ByteArray)] from rfl) (Reps.one (show Kd.M Kd.string _ _ _ (⟨#[115, 101, 118]⟩ : ByteArray) [.string (⟨#[115, 101, 118]⟩ : ByteArray)] from rfl) (Reps.one (show Kd.M Kd.string _ _ _ (⟨#[122, 111, 110, 101]⟩ : ByteArray) [.string (⟨#[122, 111, 110, 101]⟩ : ByteArray)] from rfl) (Reps.none _ _)))))); intro v168 w3 ho4 hb hg_ hnew_; clear hg_ hnew_; (first | rw [← Ny167.out] at ho4 | (simp only [Int.reduceToNat] at ho4; rw [← Ny167.out] at ho4)); have HO169 := rl_ ho4 HK; have n1_ := IsS64.bk_ HI0 hb; have n2_ := kt_ HK hb; have n3_ := st_ HB hb; clear HI0 HK HB; have HI0 := n1_; have HK := n2_; have HB := n3_; clear n1_ n2_ n3_; clear hb ho4; obtain ⟨Ao5, co5, eo5⟩ := Kd.R_slice HO169.out; subst eo5) | ((with_reducible refine gate_callee (f := 75) rfl ?_); refine gl_ (some 5) Tryd.func75 #[.pointer (some ⟨g, 0, none⟩), .slice Ao5 y167.length co5] ?_; (with_reducible refine (spec_l1Str.calls g s0_0 s0_1 s0_2 _ _ y167 t170 t171 t172 w0 _ ?side1 ?side2 ?side3 ?side4 ?side5 A2.out).mono ?_); (case side1 => exact IsS64.pk_ HI0.out); (case side2 => exact hs_ HB.out); (case side3 => exact cp_ ((Kd.R_reads' HO169.out).2.2)); (case side4 => exact (Kd.R_reads' HO169.out).2.1); (case side5 => exact far_slice (IsS64.own_ne HI0.out HO169.out (by decide))); rintro e w6 ⟨rfl, hi, hb, hk⟩; refine ⟨_, rfl, ?_⟩; replace HO169 := IsS64.rk_ HI0 HO169 hk; replace HK := kh_ HK hk; replace HB := Aside0.mk (hb); replace HI0 := Aside0.mk (hi); (try clear hb); (try clear hk); (try clear hi)))
 go_ret
 exact an_ ⟨IsS64.pk_ HI0.out, by exact hs_ HB.out, ku_ HK.out⟩
def spec_l1AnyName.f (s0_0 : List Int) (s0_1 : Int) (s0_2 : Int) : Option (ByteArray × Int × Int) := (spec_l1Once.f s0_0 s0_1 s0_2 2).bind fun bt173 => (if bt173.1 = true then ((spec_l1Names.f s0_0 bt173.2.1 bt173.2.2).bind fun bt176 => (some (bt176.1, bt176.2.1, bt176.2.2))) else ((spec_l1Str.f s0_0 bt173.2.1 bt173.2.2 (([(⟨#[]⟩ : ByteArray), (⟨#[65]⟩ : ByteArray), (⟨#[110, 105, 110, 101, 99, 104, 97, 114, 115]⟩ : ByteArray), (⟨#[101, 105, 103, 104, 116, 97, 98, 99]⟩ : ByteArray), (⟨#[97, 32, 98]⟩ : ByteArray), (⟨#[97, 49]⟩ : ByteArray)] : List ByteArray))).bind fun bt182 => (some (bt182.1, bt182.2.1, bt182.2.2))))
theorem spec_l1AnyName.calls (g : Nat) (s0_0 : List Int) (s0_1 : Int) (s0_2 : Int) (r1 : ByteArray) (r2 : Int) (r3 : Int) (w0 w : World) (hI : IsS64 w0 w g s0_0 s0_1 s0_2) (hB : Below w0.heap.size w0 w) (h : spec_l1AnyName.f s0_0 s0_1 s0_2 = some (r1, r2, r3)) :
  Calls Tryd.prog 65 #[.pointer (some ⟨g, 0, none⟩)] w fun e w' => e = .returned (.string r1) ∧ IsS64 w0 w' g s0_0 r2 r3 ∧ Below w0.heap.size w0 w' ∧ KeepBut w w' g none := by
 have HI0 := Aside0.mk hI
 have HK := Aside0.mk (KeepBut.refl w g none)
 have HL := Aside0.mk hB.size
 clear hI
 have HW0 := Aside0.mk hB.size
 have HB := Aside0.mk hB
 clear hB
 have H : ((spec_l1Once.f s0_0 s0_1 s0_2 2).bind fun bt173 => (if bt173.1 = true then ((spec_l1Names.f s0_0 bt173.2.1 bt173.2.2).bind fun bt176 => (some (bt176.1, bt176.2.1, bt176.2.2))) else ((spec_l1Str.f s0_0 bt173.2.1 bt173.2.2 (([(⟨#[]⟩ : ByteArray), (⟨#[65]⟩ : ByteArray), (⟨#[110, 105, 110, 101, 99, 104, 97, 114, 115]⟩ : ByteArray), (⟨#[101, 105, 103, 104, 116, 97, 98, 99]⟩ : ByteArray), (⟨#[97, 32, 98]⟩ : ByteArray), (⟨#[97, 49]⟩ : ByteArray)] : List ByteArray))).bind fun bt182 => (some (bt182.1, bt182.2.1, bt182.2.2))))) = some (r1, r2, r3) := h
 clear h
 replace H := Option.bind_eq_some_iff.mp H
 obtain ⟨⟨t173, t174, t175⟩, A20, H⟩ := H
 have A2 := Aside0.mk A20
 clear A20
 by_cases c3 : t173 = true
 ·
  subst c3
  rw [if_pos rfl] at H
  replace H := Option.bind_eq_some_iff.mp H
  obtain ⟨⟨t176, t177, t178⟩, A40, H⟩ := H
  have A4 := Aside0.mk A40
  clear A40
  simp only [Option.some.injEq, Prod.mk.injEq] at H
  obtain ⟨rfl, rfl, rfl⟩ := H
  go_enter Tryd.func65, Tryd.ntmps65
  go_wp2_with (first | ((with_reducible refine gate_callee (f := 24) rfl ?_); refine gl_ (some 4) Tryd.func24 #[.pointer (some ⟨g, 0, none⟩), .int .i64 2] ?_; (with_reducible refine (spec_l1Once.calls g s0_0 s0_1 s0_2 2 true t174 t175 w0 _ ?side1 ?side2 A2.out).mono ?_); (case side1 => exact IsS64.pk_ HI0.out); (case side2 => exact hs_ HB.out); rintro e w5 ⟨rfl, hi, hb, hk⟩; refine ⟨_, rfl, ?_⟩; replace HK := kh_ HK hk; replace HB := Aside0.mk (hb); replace HI0 := Aside0.mk (hi); (try clear hb); (try clear hk); (try clear hi)) | ((with_reducible refine gate_callee (f := 81) rfl ?_); refine gl_ (some 6) Tryd.func81 #[.pointer (some ⟨g, 0, none⟩)] ?_; (with_reducible refine (spec_l1Names.calls g s0_0 t174 t175 t176 t177 t178 w0 _ ?side1 ?side2 A4.out).mono ?_); (case side1 => exact IsS64.pk_ HI0.out); (case side2 => exact hs_ HB.out); rintro e w6 ⟨rfl, hi, hb, hk⟩; refine ⟨_, rfl, ?_⟩; replace HK := kh_ HK hk; replace HB := Aside0.mk (hb); replace HI0 := Aside0.mk (hi); (try clear hb); (try clear hk); (try clear hi)))
  go_ret
  exact an_ ⟨IsS64.pk_ HI0.out, by exact hs_ HB.out, ku_ HK.out⟩
 replace c3 := Bool.eq_false_iff.mpr c3
 subst c3
 rw [if_neg (show ¬ (false = true) by decide)] at H
 obtain ⟨y179, hy179⟩ : ∃ y_ : List ByteArray, y_ = (([(⟨#[]⟩ : ByteArray), (⟨#[65]⟩ : ByteArray), (⟨#[110, 105, 110, 101, 99, 104, 97, 114, 115]⟩ : ByteArray), (⟨#[101, 105, 103, 104, 116, 97, 98, 99]⟩ : ByteArray), (⟨#[97, 32, 98]⟩ : ByteArray), (⟨#[97, 49]⟩ : ByteArray)] : List ByteArray)) := ⟨_, rfl⟩
 replace H : ((spec_l1Str.f s0_0 t174 t175 y179).bind fun bt182 => (some (bt182.1, bt182.2.1, bt182.2.2))) = some (r1, r2, r3) := by first | (rw [hy179]; with_reducible exact H) | (have H2_ := (Option.bind_some _ _).symm.trans H; rw [hy179]; with_reducible exact H2_) | (have H2_ := (Option.bind_some _ _).symm.trans H; with_reducible exact H2_) | with_reducible exact H | (rw [hy179]; exact H) | exact H
 have Ny179 := Aside0.mk hy179
 clear hy179
 replace H := Option.bind_eq_some_iff.mp H
 obtain ⟨⟨t182, t183, t184⟩, A70, H⟩ := H
 have A7 := Aside0.mk A70
 clear A70
 simp only [Option.some.injEq, Prod.mk.injEq] at H
 obtain ⟨rfl, rfl, rfl⟩ := H
 go_enter Tryd.func65, Tryd.ntmps65
 go_wp2_with (first | ((with_reducible refine gate_callee (f := 24) rfl ?_); refine gl_ (some 4) Tryd.func24 #[.pointer (some ⟨g, 0, none⟩), .int .i64 2] ?_; (with_reducible refine (spec_l1Once.calls g s0_0 s0_1 s0_2 2 false t174 t175 w0 _ ?side1 ?side2 A2.out).mono ?_); (case side1 => exact IsS64.pk_ HI0.out); (case side2 => exact hs_ HB.out); rintro e w8 ⟨rfl, hi, hb, hk⟩; refine ⟨_, rfl, ?_⟩; replace HK := kh_ HK hk; replace HB := Aside0.mk (hb); replace HI0 := Aside0.mk (hi); (try clear hb); (try clear hk); (try clear hi)) | ((with_reducible refine gd_ 8 rfl ?_); refine Kd.R_lit Kd.string _ 9 ?hg (N := 8) ?hd (xs := ([(⟨#[]⟩ : ByteArray), (⟨#[65]⟩ : ByteArray), (⟨#[110, 105, 110, 101, 99, 104, 97, 114, 115]⟩ : ByteArray), (⟨#[101, 105, 103, 104, 116, 97, 98, 99]⟩ : ByteArray), (⟨#[97, 32, 98]⟩ : ByteArray), (⟨#[97, 49]⟩ : ByteArray)] : List ByteArray)) (inner := [.string (⟨#[]⟩ : ByteArray), .string (⟨#[65]⟩ : ByteArray), .string (⟨#[110, 105, 110, 101, 99, 104, 97, 114, 115]⟩ : ByteArray), .string (⟨#[101, 105, 103, 104, 116, 97, 98, 99]⟩ : ByteArray), .string (⟨#[97, 32, 98]⟩ : ByteArray), .string (⟨#[97, 49]⟩ : ByteArray)]) (ok := fun _ => True) (okp := fun _ => True) ?hr ?hp (fun _ hk => hk) trivial (Below.refl _ _) (Nat.le_refl _) (by simp) ?_; (case hd => rfl); (case hg => rfl); (case hr => first | (go_simp; done) | (go_simp; rfl)); (case hp => exact (Reps.one (show Kd.M Kd.string _ _ _ (⟨#[]⟩ : ByteArray) [.string (⟨#[]⟩ : ByteArray)] from rfl) (Reps.one (show Kd.M Kd.string _ _ _ (⟨#[65]⟩ : ByteArray) [.string (⟨#[65]⟩ : ByteArray)] from rfl) (Reps.one (show Kd.M Kd.string _ _ _ (⟨#[110, 105, 110, 101, 99, 104, 97, 114, 115]⟩ : ByteArray) [.string (⟨#[110, 105, 110, 101, 99, 104, 97, 114, 115]⟩ : ByteArray)] from rfl) (Reps.one (show Kd.M Kd.string _ _ _ (⟨#[101, 105, 103, 104, 116, 97, 98, 99]⟩ : ByteArray) [.string (⟨#[101, 105, 103, 104, 116, 97, 98, 99]⟩ : ByteArray)] from rfl) (Reps.one (show Kd.M Kd.string _ _ _ (⟨#[97, 32, 98]⟩ : ByteArray) [.string (⟨#[97, 32, 98]⟩ : ByteArray)] from rfl) (Reps.one (show Kd.M Kd.string _ _ _ (⟨#[97, 49]⟩ : ByteArray) [.string (⟨#[97, 49]⟩ : ByteArray)] from rfl) (Reps.none _ _)))))))); intro v180 w9 ho10 hb hg_ hnew_; clear hg_ hnew_; (first | rw [← Ny179.out] at ho10 | (simp only [Int.reduceToNat] at ho10; rw [← Ny179.out] at ho10)); have HO181 := rl_ ho10 HK; have n1_ := IsS64.bk_ HI0 hb; have n2_ := kt_ HK hb; have n3_ := st_ HB hb; clear HI0 HK HB; have HI0 := n1_; have HK := n2_; have HB := n3_; clear n1_ n2_ n3_; clear hb ho10; obtain ⟨Ao11, co11, eo11⟩ := Kd.R_slice HO181.out; subst eo11) | ((with_reducible refine gate_callee (f := 75) rfl ?_); refine gl_ (some 9) Tryd.func75 #[.pointer (some ⟨g, 0, none⟩), .slice Ao11 y179.length co11] ?_; (with_reducible refine (spec_l1Str.calls g s0_0 t174 t175 _ _ y179 t182 t183 t184 w0 _ ?side1 ?side2 ?side3 ?side4 ?side5 A7.out).mono ?_); (case side1 => exact IsS64.pk_ HI0.out); (case side2 => exact hs_ HB.out); (case side3 => exact cp_ ((Kd.R_reads' HO181.out).2.2)); (case side4 => exact (Kd.R_reads' HO181.out).2.1); (case side5 => exact far_slice (IsS64.own_ne HI0.out HO181.out (by decide))); rintro e w12 ⟨rfl, hi, hb, hk⟩; refine ⟨_, rfl, ?_⟩; replace HO181 := IsS64.rk_ HI0 HO181 hk; replace HK := kh_ HK hk; replace HB := Aside0.mk (hb); replace HI0 := Aside0.mk (hi); (try clear hb); (try clear hk); (try clear hi)))
 go_ret
 exact an_ ⟨IsS64.pk_ HI0.out, by exact hs_ HB.out, ku_ HK.out⟩
def spec_l5Any.f (s0_0 : List Int) (s0_1 : Int) (s0_2 : Int) : Option (List ByteArray × Int × Int) := (spec_l5By.f s0_0 s0_1 s0_2).bind fun bt185 => ((spec_l1Once.f s0_0 bt185.2.1 bt185.2.2 4).bind fun bt190 => (if bt190.1 = true then ((spec_l1AnyName.f s0_0 bt190.2.1 bt190.2.2).bind fun bt193 => (if bt185.1.length < 8796093022208 then (some ((bt185.1 ++ [bt193.1]), bt193.2.1, bt193.2.2)) else (none))) else (some (bt185.1, bt190.2.1, bt190.2.2))))
theorem spec_l5Any.calls (g : Nat) (s0_0 : List Int) (s0_1 : Int) (s0_2 : Int) (r1 : List ByteArray) (r2 : Int) (r3 : Int) (w0 w : World) (hI : IsS64 w0 w g s0_0 s0_1 s0_2) (hB : Below w0.heap.size w0 w) (h : spec_l5Any.f s0_0 s0_1 s0_2 = some (r1, r2, r3)) :
  Calls Tryd.prog 44 #[.pointer (some ⟨g, 0, none⟩)] w fun e w' => ∃ v0_ : Value, e = .returned (v0_) ∧ Kd.R Kd.string 9 w' w.heap.size (fun _ => True) v0_ r1 ∧ IsS64 w0 w' g s0_0 r2 r3 ∧ Below w0.heap.size w0 w' ∧ KeepBut w w' g none := by
 have HI0 := Aside0.mk hI
 have HK := Aside0.mk (KeepBut.refl w g none)
 have HL := Aside0.mk hB.size
 clear hI
 have HW0 := Aside0.mk hB.size
 have HB := Aside0.mk hB
 clear hB
 have H : ((spec_l5By.f s0_0 s0_1 s0_2).bind fun bt185 => ((spec_l1Once.f s0_0 bt185.2.1 bt185.2.2 4).bind fun bt190 => (if bt190.1 = true then ((spec_l1AnyName.f s0_0 bt190.2.1 bt190.2.2).bind fun bt193 => (if bt185.1.length < 8796093022208 then (some ((bt185.1 ++ [bt193.1]), bt193.2.1, bt193.2.2)) else (none))) else (some (bt185.1, bt190.2.1, bt190.2.2))))) = some (r1, r2, r3) := h
 clear h
 replace H := Option.bind_eq_some_iff.mp H
 obtain ⟨⟨t185, t188, t189⟩, A20, H⟩ := H
 have A2 := Aside0.mk A20
 clear A20
 replace H := Option.bind_eq_some_iff.mp H
 obtain ⟨⟨t190, t191, t192⟩, A30, H⟩ := H
 have A3 := Aside0.mk A30
 clear A30
 by_cases c4 : t190 = true
 ·
  subst c4
  rw [if_pos rfl] at H
  replace H := Option.bind_eq_some_iff.mp H
  obtain ⟨⟨t193, t194, t195⟩, A50, H⟩ := H
  have A5 := Aside0.mk A50
  clear A50
  by_cases c6 : t185.length < 8796093022208
  ·
   rw [if_pos c6] at H
   have LMc6 := Aside0.mk c6
   clear c6
   obtain ⟨y196, hy196⟩ : ∃ y_ : List ByteArray, y_ = (t185 ++ [t193]) := ⟨_, rfl⟩
   replace H : (some (y196, t194, t195)) = some (r1, r2, r3) := by first | (rw [hy196]; with_reducible exact H) | (have H2_ := (Option.bind_some _ _).symm.trans H; rw [hy196]; with_reducible exact H2_) | (have H2_ := (Option.bind_some _ _).symm.trans H; with_reducible exact H2_) | with_reducible exact H | (rw [hy196]; exact H) | exact H
   have Ny196 := Aside0.mk hy196
   clear hy196
   simp only [Option.some.injEq, Prod.mk.injEq] at H
   obtain ⟨rfl, rfl, rfl⟩ := H
   go_enter Tryd.func44, Tryd.ntmps44
   go_wp2_with (first | ((with_reducible refine gate_callee (f := 63) rfl ?_); refine gl_ (some 5) Tryd.func63 #[.pointer (some ⟨g, 0, none⟩)] ?_; (with_reducible refine (spec_l5By.calls g s0_0 s0_1 s0_2 t185 t188 t189 w0 _ ?side1 ?side2 A2.out).mono ?_); (case side1 => exact IsS64.pk_ HI0.out); (case side2 => exact hs_ HB.out); rintro e w7 ⟨v186, rfl, ho0, hi, hb, hk⟩; refine ⟨_, rfl, ?_⟩; have HO187 := rl_ ho0 HK; have n1_ := kh_ HK hk; have n2_ := Aside0.mk (hb); have n3_ := Aside0.mk (hi); clear HK HB HI0; have HK := n1_; have HB := n2_; have HI0 := n3_; clear n1_ n2_ n3_; (try clear hb); (try clear hk); (try clear hi); (try clear ho0)) | ((with_reducible refine gate_callee (f := 24) rfl ?_); refine gl_ (some 7) Tryd.func24 #[.pointer (some ⟨g, 0, none⟩), .int .i64 4] ?_; (with_reducible refine (spec_l1Once.calls g s0_0 t188 t189 4 true t191 t192 w0 _ ?side1 ?side2 A3.out).mono ?_); (case side1 => exact IsS64.pk_ HI0.out); (case side2 => exact hs_ HB.out); rintro e w8 ⟨rfl, hi, hb, hk⟩; refine ⟨_, rfl, ?_⟩; replace HO187 := IsS64.rk_ HI0 HO187 hk; replace HK := kh_ HK hk; replace HB := Aside0.mk (hb); replace HI0 := Aside0.mk (hi); (try clear hb); (try clear hk); (try clear hi)) | ((with_reducible refine gate_callee (f := 65) rfl ?_); refine gl_ (some 10) Tryd.func65 #[.pointer (some ⟨g, 0, none⟩)] ?_; (with_reducible refine (spec_l1AnyName.calls g s0_0 t191 t192 t193 t194 t195 w0 _ ?side1 ?side2 A5.out).mono ?_); (case side1 => exact IsS64.pk_ HI0.out); (case side2 => exact hs_ HB.out); rintro e w9 ⟨rfl, hi, hb, hk⟩; refine ⟨_, rfl, ?_⟩; replace HO187 := IsS64.rk_ HI0 HO187 hk; replace HK := kh_ HK hk; replace HB := Aside0.mk (hb); replace HI0 := Aside0.mk (hi); (try clear hb); (try clear hk); (try clear hi)) | ((with_reducible refine gate_builtin (b := .append) (xs := #[.tmp 8, .tmp 11]) rfl ?_); at_builtin; refine Kd.R_append Kd.string w.heap.size rfl (.tmp 8) (.tmp 11) 24 9 (.string ⟨#[]⟩) 16 rfl Tryd.underlying24 info9 rfl (by decide) (by omega) v186 t185 t193 [.string t193] (fun _ => True) (fun _ => False) rfl rfl ?aP (fun _ hk => hk.elim) ?aF ?aO (Below.refl _ _) ?aS ?aL ?_; (case aP => exact rfl); (case aF => exact (fun _ _ => trivial)); (case aO => exact (rp_ HO187.out)); (case aS => exact (ks_ HK)); (case aL => have := LMc6.out; omega); intro v197 w10 ho hb hg hat; rw [← Ny196.out] at ho; replace HI0 := Aside0.mk (IsS64.grown (IsS64.pk_ HI0.out) hg (IsS64.own_ne HI0.out HO187.out (by decide))); replace HB := Aside0.mk (below_weaken (hs_ HB.out) HL.out hb); replace HK := Aside0.mk (KeepBut.trans (ku_ HK.out) (KeepBut.of_grown hg g) (Kd.R_base2 HO187.out)); have HO198 := Aside0.mk (ho); clear HO187; clear ho hb hg hat))
   go_ret
   exact ⟨_, by first | rfl | (simp [errW_none, errW_some] <;> rfl) | (simp [*, errW_none, errW_some] <;> rfl), by (with_reducible repeat (first | apply Kd.R_alloc | apply Kd.R_drewN | apply Kd.R_drew)); exact HO198.out, IsS64.pk_ HI0.out, by exact hs_ HB.out, ku_ HK.out⟩
  rw [if_neg c6] at H
  exact absurd H (by simp)
 replace c4 := Bool.eq_false_iff.mpr c4
 subst c4
 rw [if_neg (show ¬ (false = true) by decide)] at H
 simp only [Option.some.injEq, Prod.mk.injEq] at H
 obtain ⟨rfl, rfl, rfl⟩ := H
 go_enter Tryd.func44, Tryd.ntmps44
 go_wp2_with (first | ((with_reducible refine gate_callee (f := 63) rfl ?_); refine gl_ (some 5) Tryd.func63 #[.pointer (some ⟨g, 0, none⟩)] ?_; (with_reducible refine (spec_l5By.calls g s0_0 s0_1 s0_2 t185 t188 t189 w0 _ ?side1 ?side2 A2.out).mono ?_); (case side1 => exact IsS64.pk_ HI0.out); (case side2 => exact hs_ HB.out); rintro e w11 ⟨v186, rfl, ho0, hi, hb, hk⟩; refine ⟨_, rfl, ?_⟩; have HO187 := rl_ ho0 HK; have n1_ := kh_ HK hk; have n2_ := Aside0.mk (hb); have n3_ := Aside0.mk (hi); clear HK HB HI0; have HK := n1_; have HB := n2_; have HI0 := n3_; clear n1_ n2_ n3_; (try clear hb); (try clear hk); (try clear hi); (try clear ho0)) | ((with_reducible refine gate_callee (f := 24) rfl ?_); refine gl_ (some 7) Tryd.func24 #[.pointer (some ⟨g, 0, none⟩), .int .i64 4] ?_; (with_reducible refine (spec_l1Once.calls g s0_0 t188 t189 4 false t191 t192 w0 _ ?side1 ?side2 A3.out).mono ?_); (case side1 => exact IsS64.pk_ HI0.out); (case side2 => exact hs_ HB.out); rintro e w12 ⟨rfl, hi, hb, hk⟩; refine ⟨_, rfl, ?_⟩; replace HO187 := IsS64.rk_ HI0 HO187 hk; replace HK := kh_ HK hk; replace HB := Aside0.mk (hb); replace HI0 := Aside0.mk (hi); (try clear hb); (try clear hk); (try clear hi)))
 go_ret
 exact ⟨_, by first | rfl | (simp [errW_none, errW_some] <;> rfl) | (simp [*, errW_none, errW_some] <;> rfl), by (with_reducible repeat (first | apply Kd.R_alloc | apply Kd.R_drewN | apply Kd.R_drew)); exact HO187.out, IsS64.pk_ HI0.out, by exact hs_ HB.out, ku_ HK.out⟩
def spec_l13Any.f (s0_0 : List Int) (s0_1 : Int) (s0_2 : Int) : Option (Int × Int × Int × Int × Int × List ByteArray × Int × Int) := (spec_l13Draw.f s0_0 s0_1 s0_2).bind fun bt200 => ((spec_l1Below.f s0_0 bt200.2.2.2.2.2.2.1 bt200.2.2.2.2.2.2.2 14).bind fun bt211 => (if bt211.1 = 0 then ((spec_l1Int.f s0_0 bt211.2.1 bt211.2.2 (([0, 4] : List Int))).bind fun bt217 => (some (bt217.1, bt200.2.1, bt200.2.2.1, bt200.2.2.2.1, bt200.2.2.2.2.1, bt200.2.2.2.2.2.1, bt217.2.1, bt217.2.2))) else (if bt211.1 = 1 then ((spec_l1Int.f s0_0 bt211.2.1 bt211.2.2 (([0, 9] : List Int))).bind fun bt223 => (some (bt200.1, bt223.1, bt200.2.2.1, bt200.2.2.2.1, bt200.2.2.2.2.1, bt200.2.2.2.2.2.1, bt223.2.1, bt223.2.2))) else (if bt211.1 = 2 then ((spec_l1Int.f s0_0 bt211.2.1 bt211.2.2 (([0, 3] : List Int))).bind fun bt229 => (some (bt200.1, bt200.2.1, bt229.1, bt200.2.2.2.1, bt200.2.2.2.2.1, bt200.2.2.2.2.2.1, bt229.2.1, bt229.2.2))) else (if bt211.1 = 3 then ((spec_l1Int.f s0_0 bt211.2.1 bt211.2.2 (([0, 9, 10] : List Int))).bind fun bt235 => (some (bt200.1, bt200.2.1, bt200.2.2.1, bt235.1, bt200.2.2.2.2.1, bt200.2.2.2.2.2.1, bt235.2.1, bt235.2.2))) else (if bt211.1 = 4 then ((spec_l1Int.f s0_0 bt211.2.1 bt211.2.2 (([0, 9, 10] : List Int))).bind fun bt241 => (some (bt200.1, bt200.2.1, bt200.2.2.1, bt200.2.2.2.1, bt241.1, bt200.2.2.2.2.2.1, bt241.2.1, bt241.2.2))) else (if bt211.1 = 5 then ((spec_l5Any.f s0_0 bt211.2.1 bt211.2.2).bind fun bt244 => (some (bt200.1, bt200.2.1, bt200.2.2.1, bt200.2.2.2.1, bt200.2.2.2.2.1, bt244.1, bt244.2.1, bt244.2.2))) else (some (bt200.1, bt200.2.1, bt200.2.2.1, bt200.2.2.2.1, bt200.2.2.2.2.1, bt200.2.2.2.2.2.1, bt211.2.1, bt211.2.2)))))))))
theorem spec_l13Any.calls (g : Nat) (s0_0 : List Int) (s0_1 : Int) (s0_2 : Int) (r1 : Int) (r2 : Int) (r3 : Int) (r4 : Int) (r5 : Int) (r6 : List ByteArray) (r7 : Int) (r8 : Int) (w0 w : World) (hI : IsS64 w0 w g s0_0 s0_1 s0_2) (hB : Below w0.heap.size w0 w) (h : spec_l13Any.f s0_0 s0_1 s0_2 = some (r1, r2, r3, r4, r5, r6, r7, r8)) :
  Calls Tryd.prog 23 #[.pointer (some ⟨g, 0, none⟩)] w fun e w' => ∃ v5_ : Value, e = .returned (.agg #[.int .i64 r1, .int .i64 r2, .int .i64 r3, .int .i64 r4, .int .i64 r5, v5_]) ∧ Kd.R Kd.string 9 w' w.heap.size (fun _ => True) v5_ r6 ∧ IsS64 w0 w' g s0_0 r7 r8 ∧ Below w0.heap.size w0 w' ∧ KeepBut w w' g none := by
 have hu26 := Tryd.underlying26
 have HI0 := Aside0.mk hI
 have HK := Aside0.mk (KeepBut.refl w g none)
 have HL := Aside0.mk hB.size
 clear hI
 have HW0 := Aside0.mk hB.size
 have HB := Aside0.mk hB
 clear hB
 have H : ((spec_l13Draw.f s0_0 s0_1 s0_2).bind fun bt200 => ((spec_l1Below.f s0_0 bt200.2.2.2.2.2.2.1 bt200.2.2.2.2.2.2.2 14).bind fun bt211 => (if bt211.1 = 0 then ((spec_l1Int.f s0_0 bt211.2.1 bt211.2.2 (([0, 4] : List Int))).bind fun bt217 => (some (bt217.1, bt200.2.1, bt200.2.2.1, bt200.2.2.2.1, bt200.2.2.2.2.1, bt200.2.2.2.2.2.1, bt217.2.1, bt217.2.2))) else (if bt211.1 = 1 then ((spec_l1Int.f s0_0 bt211.2.1 bt211.2.2 (([0, 9] : List Int))).bind fun bt223 => (some (bt200.1, bt223.1, bt200.2.2.1, bt200.2.2.2.1, bt200.2.2.2.2.1, bt200.2.2.2.2.2.1, bt223.2.1, bt223.2.2))) else (if bt211.1 = 2 then ((spec_l1Int.f s0_0 bt211.2.1 bt211.2.2 (([0, 3] : List Int))).bind fun bt229 => (some (bt200.1, bt200.2.1, bt229.1, bt200.2.2.2.1, bt200.2.2.2.2.1, bt200.2.2.2.2.2.1, bt229.2.1, bt229.2.2))) else (if bt211.1 = 3 then ((spec_l1Int.f s0_0 bt211.2.1 bt211.2.2 (([0, 9, 10] : List Int))).bind fun bt235 => (some (bt200.1, bt200.2.1, bt200.2.2.1, bt235.1, bt200.2.2.2.2.1, bt200.2.2.2.2.2.1, bt235.2.1, bt235.2.2))) else (if bt211.1 = 4 then ((spec_l1Int.f s0_0 bt211.2.1 bt211.2.2 (([0, 9, 10] : List Int))).bind fun bt241 => (some (bt200.1, bt200.2.1, bt200.2.2.1, bt200.2.2.2.1, bt241.1, bt200.2.2.2.2.2.1, bt241.2.1, bt241.2.2))) else (if bt211.1 = 5 then ((spec_l5Any.f s0_0 bt211.2.1 bt211.2.2).bind fun bt244 => (some (bt200.1, bt200.2.1, bt200.2.2.1, bt200.2.2.2.1, bt200.2.2.2.2.1, bt244.1, bt244.2.1, bt244.2.2))) else (some (bt200.1, bt200.2.1, bt200.2.2.1, bt200.2.2.2.1, bt200.2.2.2.2.1, bt200.2.2.2.2.2.1, bt211.2.1, bt211.2.2)))))))))) = some (r1, r2, r3, r4, r5, r6, r7, r8) := h
 clear h
 replace H := Option.bind_eq_some_iff.mp H
 obtain ⟨⟨t200, t201, t202, t203, t204, t205, t208, t209⟩, A20, H⟩ := H
 have A2 := Aside0.mk A20
 clear A20
 replace H := Option.bind_eq_some_iff.mp H
 obtain ⟨⟨t211, t212, t213⟩, A30, H⟩ := H
 have A3 := Aside0.mk A30
 clear A30
 have AHz_ := Aside0.mk H
 clear H
 go_enter Tryd.func23, Tryd.ntmps23
 go_wp2_with (first | ((with_reducible refine gd_ 2 rfl ?_); refine bv_ 2 #[.int .i64 0, .int .i64 0, .int .i64 0, .int .i64 0, .int .i64 0, .slice none 0 0] 26 ?_; intro gb199 hg w6 hbox hb; replace HB := st_ HB hb; have BK199 := Aside0.mk (hbox); have GW199 := Ge_.mk ((by rw [hg]; exact (ks_ HK) : w.heap.size ≤ gb199)); replace HK := kt_ HK hb; have GE199 := gt_ HW0 GW199; have NB0_199 := IsS64.nl_ HI0 hg; replace HI0 := IsS64.bk_ HI0 hb; have NB199_0 := ns_ NB0_199; clear hb hbox hg) | ((with_reducible refine gate_callee (f := 42) rfl ?_); refine gl_ (some 5) Tryd.func42 #[.pointer (some ⟨g, 0, none⟩)] ?_; (with_reducible refine (spec_l13Draw.calls g s0_0 s0_1 s0_2 t200 t201 t202 t203 t204 t205 t208 t209 w0 _ ?side1 ?side2 A2.out).mono ?_); (case side1 => exact IsS64.pk_ HI0.out); (case side2 => exact hs_ HB.out); rintro e w7 ⟨v206, rfl, ho0, hi, hb, hk⟩; refine ⟨_, rfl, ?_⟩; replace BK199 := kb_ hk BK199; have HO207 := rl_ ho0 HK; replace HK := kh_ HK hk; replace HB := Aside0.mk (hb); replace HI0 := Aside0.mk (hi); (try clear hb); (try clear hk); (try clear hi); (try clear ho0)) | (((with_reducible refine gd_ 3 rfl ?_); refine bv_ 3 #[.int .i64 0, .int .i64 0, .int .i64 0, .int .i64 0, .int .i64 0, .slice none 0 0] 26 ?_; intro gb210 hg w8 hbox hb; replace HO207 := rb_ HO207 hb; replace HB := st_ HB hb; have BK210 := Aside0.mk (hbox); have GW210 := Ge_.mk ((by rw [hg]; exact (ks_ HK) : w.heap.size ≤ gb210)); replace HK := kt_ HK hb; have GE210 := gt_ HW0 GW210; have NB199_210 := nk_ BK199 hg; replace BK199 := bk2_ BK199 hb; have NB210_199 := ns_ NB199_210; have NB0_210 := IsS64.nl_ HI0 hg; replace HI0 := IsS64.bk_ HI0 hb; have NB210_0 := ns_ NB0_210; clear hb hbox hg; have hnb9 := NB210_199.out; have hnc9 := NB199_210.out; have hnb10 := NB210_0.out; have hnc10 := NB0_210.out; obtain ⟨z11_0, z11_1, z11_2, z11_3, z11_4, z11_5, y11_0, y11_1, y11_2, y11_3, y11_4, y11_5⟩ := bc6_ BK210.out; obtain ⟨Ao12, co12, eo12⟩ := Kd.R_slice HO207.out; subst eo12); refine Aside0.out ?_))
 have H := AHz_.out
 clear AHz_
 by_cases c4 : t211 = 0
 ·
  rw [if_pos c4] at H
  have c4b0 : (t211 == 0) = true := beq_iff_eq.mpr c4
  have c4b1 : (t211 != 0) = false := bne_eq_false_iff_eq.mpr c4
  clear c4
  obtain ⟨y214, hy214⟩ : ∃ y_ : List Int, y_ = (([0, 4] : List Int)) := ⟨_, rfl⟩
  replace H : ((spec_l1Int.f s0_0 t212 t213 y214).bind fun bt217 => (some (bt217.1, t201, t202, t203, t204, t205, bt217.2.1, bt217.2.2))) = some (r1, r2, r3, r4, r5, r6, r7, r8) := by first | (rw [hy214]; with_reducible exact H) | (have H2_ := (Option.bind_some _ _).symm.trans H; rw [hy214]; with_reducible exact H2_) | (have H2_ := (Option.bind_some _ _).symm.trans H; with_reducible exact H2_) | with_reducible exact H | (rw [hy214]; exact H) | exact H
  have Ny214 := Aside0.mk hy214
  clear hy214
  replace H := Option.bind_eq_some_iff.mp H
  obtain ⟨⟨t217, t218, t219⟩, A50, H⟩ := H
  have A5 := Aside0.mk A50
  clear A50
  simp only [Option.some.injEq, Prod.mk.injEq] at H
  obtain ⟨rfl, rfl, rfl, rfl, rfl, rfl, rfl, rfl⟩ := H
  refine ⟨?_⟩
  go_wp2_with (first | ((with_reducible refine gate_callee (f := 43) rfl ?_); refine gl_ (some 7) Tryd.func43 #[.pointer (some ⟨g, 0, none⟩), .int .i64 14] ?_; (with_reducible refine (spec_l1Below.calls g s0_0 t208 t209 14 t211 t212 t213 w0 _ ?side1 ?side2 A3.out).mono ?_); (case side1 => exact IsS64.pk_ HI0.out); (case side2 => exact hs_ HB.out); rintro e w13 ⟨rfl, hi, hb, hk⟩; refine ⟨_, rfl, ?_⟩; replace BK199 := kc_ hk BK199 #[.int .i64 0, .int .i64 0, .int .i64 0, .int .i64 0, .int .i64 0, .slice none 0 0]; replace HO207 := Aside0.mk (Kd.R_mono (Kd.R_keep (IsS64.apart (IsS64.pk_ HI0.out) (by (with_reducible repeat (first | apply Kd.R_alloc | apply Kd.R_drewN | apply Kd.R_drew)); exact (Kd.R_mono (rf_ gb210 (Kd.R_types HO207.out BK210.out (by decide)) (fun _ hk => hk.2)) (fun _ h_ => h_.1))) (by decide)) hk (fun _ h => h.2)) (fun _ h => h.1)); replace BK210 := kc_ hk BK210 #[.int .i64 t200, .int .i64 t201, .int .i64 t202, .int .i64 t203, .int .i64 t204, .slice Ao12 t205.length co12]; replace HK := kh_ HK hk; replace HB := Aside0.mk (hb); replace HI0 := Aside0.mk (hi); (try clear hb); (try clear hk); (try clear hi)) | ((with_reducible refine gd_ 11 rfl ?_); refine Kd.R_lit (Kd.int .i64) _ 3 ?hg (N := 11) ?hd (xs := ([0, 4] : List Int)) (inner := [.int .i64 0, .int .i64 4]) (ok := fun _ => True) (okp := fun _ => True) ?hr ?hp (fun _ hk => hk) trivial (Below.refl _ _) (Nat.le_refl _) (by simp) ?_; (case hd => rfl); (case hg => rfl); (case hr => first | (go_simp; done) | (go_simp; rfl)); (case hp => exact (Reps.one (show Kd.M (Kd.int .i64) _ _ _ 0 [.int .i64 0] from rfl) (Reps.one (show Kd.M (Kd.int .i64) _ _ _ 4 [.int .i64 4] from rfl) (Reps.none _ _)))); intro v215 w14 ho15 hb hg_ hnew_; clear hg_ hnew_; (first | rw [← Ny214.out] at ho15 | (simp only [Int.reduceToNat] at ho15; rw [← Ny214.out] at ho15)); replace HO207 := rb_ HO207 hb; have HO216 := rl_ ho15 HK; replace HI0 := IsS64.bk_ HI0 hb; replace BK199 := bk2_ BK199 hb; replace BK210 := bk2_ BK210 hb; replace HK := kt_ HK hb; replace HB := st_ HB hb; clear hb ho15; obtain ⟨Ao16, co16, eo16⟩ := Kd.R_slice HO216.out; subst eo16) | ((with_reducible refine gate_callee (f := 28) rfl ?_); refine gl_ (some 12) Tryd.func28 #[.pointer (some ⟨g, 0, none⟩), .slice Ao16 y214.length co16] ?_; (with_reducible refine (spec_l1Int.calls g s0_0 t212 t213 _ _ y214 t217 t218 t219 w0 _ ?side1 ?side2 ?side3 ?side4 ?side5 A5.out).mono ?_); (case side1 => exact IsS64.pk_ HI0.out); (case side2 => exact hs_ HB.out); (case side3 => exact cp_ ((Kd.R_reads' HO216.out).2.2)); (case side4 => exact (Kd.R_reads' HO216.out).2.1); (case side5 => exact far_slice (IsS64.own_ne HI0.out HO216.out (by decide))); rintro e w17 ⟨rfl, hi, hb, hk⟩; refine ⟨_, rfl, ?_⟩; replace BK199 := kb_ hk BK199; replace HO207 := IsS64.rk_ HI0 HO207 hk; replace BK210 := kb_ hk BK210; replace HO216 := IsS64.rk_ HI0 HO216 hk; replace HK := kh_ HK hk; replace HB := Aside0.mk (hb); replace HI0 := Aside0.mk (hi); (try clear hb); (try clear hk); (try clear hi); obtain ⟨z18_0, z18_1, z18_2, z18_3, z18_4, z18_5, y18_0, y18_1, y18_2, y18_3, y18_4, y18_5⟩ := bc6_ BK210.out; have hnb19 := NB199_0.out; have hnc19 := NB0_199.out; obtain ⟨z20_0, z20_1, z20_2, z20_3, z20_4, z20_5, y20_0, y20_1, y20_2, y20_3, y20_4, y20_5⟩ := bc6_ BK199.out))
  refine bodyPost_ret (results_cell_row rfl _ _ gb199 26 #[.int .i64 t217, .int .i64 t201, .int .i64 t202, .int .i64 t203, .int .i64 t204, .slice Ao12 t205.length co12] (0, 0) _ rfl (bp_ BK199.out) Tryd.underlying26 rfl (by kernel_rfl)) rfl ?_
  exact ⟨_, by first | rfl | (simp [errW_none, errW_some] <;> rfl) | (simp [*, errW_none, errW_some] <;> rfl), by (with_reducible repeat (first | apply Kd.R_alloc | apply Kd.R_drewN | apply Kd.R_drew)); exact Kd.R_mono (rf_ gb199 (Kd.R_far (p := ⟨gb210, 0, none⟩) (Kd.R_types (Kd.R_types HO207.out BK210.out (by decide)) BK199.out (by decide)) (fun _ hk => hk.1.2) (.int .i64 t217)) (fun _ hk => hk.2)) (fun _ hk => trivial), IsS64.pk_ HI0.out, by exact hs_ HB.out, ku_ HK.out⟩
 rw [if_neg c4] at H
 have c4b0 : (t211 == 0) = false := beq_eq_false_iff_ne.mpr c4
 have c4b1 : (t211 != 0) = true := bne_iff_ne.mpr c4
 by_cases c21 : t211 = 1
 ·
  rw [if_pos c21] at H
  have c21b0 : (t211 == 1) = true := beq_iff_eq.mpr c21
  have c21b1 : (t211 != 1) = false := bne_eq_false_iff_eq.mpr c21
  clear c21
  obtain ⟨y220, hy220⟩ : ∃ y_ : List Int, y_ = (([0, 9] : List Int)) := ⟨_, rfl⟩
  replace H : ((spec_l1Int.f s0_0 t212 t213 y220).bind fun bt223 => (some (t200, bt223.1, t202, t203, t204, t205, bt223.2.1, bt223.2.2))) = some (r1, r2, r3, r4, r5, r6, r7, r8) := by first | (rw [hy220]; with_reducible exact H) | (have H2_ := (Option.bind_some _ _).symm.trans H; rw [hy220]; with_reducible exact H2_) | (have H2_ := (Option.bind_some _ _).symm.trans H; with_reducible exact H2_) | with_reducible exact H | (rw [hy220]; exact H) | exact H
  have Ny220 := Aside0.mk hy220
  clear hy220
  replace H := Option.bind_eq_some_iff.mp H
  obtain ⟨⟨t223, t224, t225⟩, A220, H⟩ := H
  have A22 := Aside0.mk A220
  clear A220
  simp only [Option.some.injEq, Prod.mk.injEq] at H
  obtain ⟨rfl, rfl, rfl, rfl, rfl, rfl, rfl, rfl⟩ := H
  refine ⟨?_⟩
  go_wp2_with (first | ((with_reducible refine gate_callee (f := 43) rfl ?_); refine gl_ (some 7) Tryd.func43 #[.pointer (some ⟨g, 0, none⟩), .int .i64 14] ?_; (with_reducible refine (spec_l1Below.calls g s0_0 t208 t209 14 t211 t212 t213 w0 _ ?side1 ?side2 A3.out).mono ?_); (case side1 => exact IsS64.pk_ HI0.out); (case side2 => exact hs_ HB.out); rintro e w30 ⟨rfl, hi, hb, hk⟩; refine ⟨_, rfl, ?_⟩; replace BK199 := kc_ hk BK199 #[.int .i64 0, .int .i64 0, .int .i64 0, .int .i64 0, .int .i64 0, .slice none 0 0]; replace HO207 := Aside0.mk (Kd.R_mono (Kd.R_keep (IsS64.apart (IsS64.pk_ HI0.out) (by (with_reducible repeat (first | apply Kd.R_alloc | apply Kd.R_drewN | apply Kd.R_drew)); exact (Kd.R_mono (rf_ gb210 (Kd.R_types HO207.out BK210.out (by decide)) (fun _ hk => hk.2)) (fun _ h_ => h_.1))) (by decide)) hk (fun _ h => h.2)) (fun _ h => h.1)); replace BK210 := kc_ hk BK210 #[.int .i64 t200, .int .i64 t201, .int .i64 t202, .int .i64 t203, .int .i64 t204, .slice Ao12 t205.length co12]; replace HK := kh_ HK hk; replace HB := Aside0.mk (hb); replace HI0 := Aside0.mk (hi); (try clear hb); (try clear hk); (try clear hi)) | ((with_reducible refine gd_ 17 rfl ?_); refine Kd.R_lit (Kd.int .i64) _ 3 ?hg (N := 17) ?hd (xs := ([0, 9] : List Int)) (inner := [.int .i64 0, .int .i64 9]) (ok := fun _ => True) (okp := fun _ => True) ?hr ?hp (fun _ hk => hk) trivial (Below.refl _ _) (Nat.le_refl _) (by simp) ?_; (case hd => rfl); (case hg => rfl); (case hr => first | (go_simp; done) | (go_simp; rfl)); (case hp => exact (Reps.one (show Kd.M (Kd.int .i64) _ _ _ 0 [.int .i64 0] from rfl) (Reps.one (show Kd.M (Kd.int .i64) _ _ _ 9 [.int .i64 9] from rfl) (Reps.none _ _)))); intro v221 w31 ho32 hb hg_ hnew_; clear hg_ hnew_; (first | rw [← Ny220.out] at ho32 | (simp only [Int.reduceToNat] at ho32; rw [← Ny220.out] at ho32)); replace HO207 := rb_ HO207 hb; have HO222 := rl_ ho32 HK; replace HI0 := IsS64.bk_ HI0 hb; replace BK199 := bk2_ BK199 hb; replace BK210 := bk2_ BK210 hb; replace HK := kt_ HK hb; replace HB := st_ HB hb; clear hb ho32; obtain ⟨Ao33, co33, eo33⟩ := Kd.R_slice HO222.out; subst eo33) | ((with_reducible refine gate_callee (f := 28) rfl ?_); refine gl_ (some 18) Tryd.func28 #[.pointer (some ⟨g, 0, none⟩), .slice Ao33 y220.length co33] ?_; (with_reducible refine (spec_l1Int.calls g s0_0 t212 t213 _ _ y220 t223 t224 t225 w0 _ ?side1 ?side2 ?side3 ?side4 ?side5 A22.out).mono ?_); (case side1 => exact IsS64.pk_ HI0.out); (case side2 => exact hs_ HB.out); (case side3 => exact cp_ ((Kd.R_reads' HO222.out).2.2)); (case side4 => exact (Kd.R_reads' HO222.out).2.1); (case side5 => exact far_slice (IsS64.own_ne HI0.out HO222.out (by decide))); rintro e w34 ⟨rfl, hi, hb, hk⟩; refine ⟨_, rfl, ?_⟩; replace BK199 := kb_ hk BK199; replace HO207 := IsS64.rk_ HI0 HO207 hk; replace BK210 := kb_ hk BK210; replace HO222 := IsS64.rk_ HI0 HO222 hk; replace HK := kh_ HK hk; replace HB := Aside0.mk (hb); replace HI0 := Aside0.mk (hi); (try clear hb); (try clear hk); (try clear hi); obtain ⟨z35_0, z35_1, z35_2, z35_3, z35_4, z35_5, y35_0, y35_1, y35_2, y35_3, y35_4, y35_5⟩ := bc6_ BK210.out; have hnb36 := NB199_0.out; have hnc36 := NB0_199.out; obtain ⟨z37_0, z37_1, z37_2, z37_3, z37_4, z37_5, y37_0, y37_1, y37_2, y37_3, y37_4, y37_5⟩ := bc6_ BK199.out))
  refine bodyPost_ret (results_cell_row rfl _ _ gb199 26 #[.int .i64 t200, .int .i64 t223, .int .i64 t202, .int .i64 t203, .int .i64 t204, .slice Ao12 t205.length co12] (0, 0) _ rfl (bp_ BK199.out) Tryd.underlying26 rfl (by kernel_rfl)) rfl ?_
  exact ⟨_, by first | rfl | (simp [errW_none, errW_some] <;> rfl) | (simp [*, errW_none, errW_some] <;> rfl), by (with_reducible repeat (first | apply Kd.R_alloc | apply Kd.R_drewN | apply Kd.R_drew)); exact Kd.R_mono (rf_ gb199 (Kd.R_far (p := ⟨gb210, 1, none⟩) (Kd.R_types (Kd.R_types HO207.out BK210.out (by decide)) BK199.out (by decide)) (fun _ hk => hk.1.2) (.int .i64 t223)) (fun _ hk => hk.2)) (fun _ hk => trivial), IsS64.pk_ HI0.out, by exact hs_ HB.out, ku_ HK.out⟩
 rw [if_neg c21] at H
 have c21b0 : (t211 == 1) = false := beq_eq_false_iff_ne.mpr c21
 have c21b1 : (t211 != 1) = true := bne_iff_ne.mpr c21
 by_cases c38 : t211 = 2
 ·
  rw [if_pos c38] at H
  have c38b0 : (t211 == 2) = true := beq_iff_eq.mpr c38
  have c38b1 : (t211 != 2) = false := bne_eq_false_iff_eq.mpr c38
  clear c38
  obtain ⟨y226, hy226⟩ : ∃ y_ : List Int, y_ = (([0, 3] : List Int)) := ⟨_, rfl⟩
  replace H : ((spec_l1Int.f s0_0 t212 t213 y226).bind fun bt229 => (some (t200, t201, bt229.1, t203, t204, t205, bt229.2.1, bt229.2.2))) = some (r1, r2, r3, r4, r5, r6, r7, r8) := by first | (rw [hy226]; with_reducible exact H) | (have H2_ := (Option.bind_some _ _).symm.trans H; rw [hy226]; with_reducible exact H2_) | (have H2_ := (Option.bind_some _ _).symm.trans H; with_reducible exact H2_) | with_reducible exact H | (rw [hy226]; exact H) | exact H
  have Ny226 := Aside0.mk hy226
  clear hy226
  replace H := Option.bind_eq_some_iff.mp H
  obtain ⟨⟨t229, t230, t231⟩, A390, H⟩ := H
  have A39 := Aside0.mk A390
  clear A390
  simp only [Option.some.injEq, Prod.mk.injEq] at H
  obtain ⟨rfl, rfl, rfl, rfl, rfl, rfl, rfl, rfl⟩ := H
  refine ⟨?_⟩
  go_wp2_with (first | ((with_reducible refine gate_callee (f := 43) rfl ?_); refine gl_ (some 7) Tryd.func43 #[.pointer (some ⟨g, 0, none⟩), .int .i64 14] ?_; (with_reducible refine (spec_l1Below.calls g s0_0 t208 t209 14 t211 t212 t213 w0 _ ?side1 ?side2 A3.out).mono ?_); (case side1 => exact IsS64.pk_ HI0.out); (case side2 => exact hs_ HB.out); rintro e w47 ⟨rfl, hi, hb, hk⟩; refine ⟨_, rfl, ?_⟩; replace BK199 := kc_ hk BK199 #[.int .i64 0, .int .i64 0, .int .i64 0, .int .i64 0, .int .i64 0, .slice none 0 0]; replace HO207 := Aside0.mk (Kd.R_mono (Kd.R_keep (IsS64.apart (IsS64.pk_ HI0.out) (by (with_reducible repeat (first | apply Kd.R_alloc | apply Kd.R_drewN | apply Kd.R_drew)); exact (Kd.R_mono (rf_ gb210 (Kd.R_types HO207.out BK210.out (by decide)) (fun _ hk => hk.2)) (fun _ h_ => h_.1))) (by decide)) hk (fun _ h => h.2)) (fun _ h => h.1)); replace BK210 := kc_ hk BK210 #[.int .i64 t200, .int .i64 t201, .int .i64 t202, .int .i64 t203, .int .i64 t204, .slice Ao12 t205.length co12]; replace HK := kh_ HK hk; replace HB := Aside0.mk (hb); replace HI0 := Aside0.mk (hi); (try clear hb); (try clear hk); (try clear hi)) | ((with_reducible refine gd_ 23 rfl ?_); refine Kd.R_lit (Kd.int .i64) _ 3 ?hg (N := 23) ?hd (xs := ([0, 3] : List Int)) (inner := [.int .i64 0, .int .i64 3]) (ok := fun _ => True) (okp := fun _ => True) ?hr ?hp (fun _ hk => hk) trivial (Below.refl _ _) (Nat.le_refl _) (by simp) ?_; (case hd => rfl); (case hg => rfl); (case hr => first | (go_simp; done) | (go_simp; rfl)); (case hp => exact (Reps.one (show Kd.M (Kd.int .i64) _ _ _ 0 [.int .i64 0] from rfl) (Reps.one (show Kd.M (Kd.int .i64) _ _ _ 3 [.int .i64 3] from rfl) (Reps.none _ _)))); intro v227 w48 ho49 hb hg_ hnew_; clear hg_ hnew_; (first | rw [← Ny226.out] at ho49 | (simp only [Int.reduceToNat] at ho49; rw [← Ny226.out] at ho49)); replace HO207 := rb_ HO207 hb; have HO228 := rl_ ho49 HK; replace HI0 := IsS64.bk_ HI0 hb; replace BK199 := bk2_ BK199 hb; replace BK210 := bk2_ BK210 hb; replace HK := kt_ HK hb; replace HB := st_ HB hb; clear hb ho49; obtain ⟨Ao50, co50, eo50⟩ := Kd.R_slice HO228.out; subst eo50) | ((with_reducible refine gate_callee (f := 28) rfl ?_); refine gl_ (some 24) Tryd.func28 #[.pointer (some ⟨g, 0, none⟩), .slice Ao50 y226.length co50] ?_; (with_reducible refine (spec_l1Int.calls g s0_0 t212 t213 _ _ y226 t229 t230 t231 w0 _ ?side1 ?side2 ?side3 ?side4 ?side5 A39.out).mono ?_); (case side1 => exact IsS64.pk_ HI0.out); (case side2 => exact hs_ HB.out); (case side3 => exact cp_ ((Kd.R_reads' HO228.out).2.2)); (case side4 => exact (Kd.R_reads' HO228.out).2.1); (case side5 => exact far_slice (IsS64.own_ne HI0.out HO228.out (by decide))); rintro e w51 ⟨rfl, hi, hb, hk⟩; refine ⟨_, rfl, ?_⟩; replace BK199 := kb_ hk BK199; replace HO207 := IsS64.rk_ HI0 HO207 hk; replace BK210 := kb_ hk BK210; replace HO228 := IsS64.rk_ HI0 HO228 hk; replace HK := kh_ HK hk; replace HB := Aside0.mk (hb); replace HI0 := Aside0.mk (hi); (try clear hb); (try clear hk); (try clear hi); obtain ⟨z52_0, z52_1, z52_2, z52_3, z52_4, z52_5, y52_0, y52_1, y52_2, y52_3, y52_4, y52_5⟩ := bc6_ BK210.out; have hnb53 := NB199_0.out; have hnc53 := NB0_199.out; obtain ⟨z54_0, z54_1, z54_2, z54_3, z54_4, z54_5, y54_0, y54_1, y54_2, y54_3, y54_4, y54_5⟩ := bc6_ BK199.out))
  refine bodyPost_ret (results_cell_row rfl _ _ gb199 26 #[.int .i64 t200, .int .i64 t201, .int .i64 t229, .int .i64 t203, .int .i64 t204, .slice Ao12 t205.length co12] (0, 0) _ rfl (bp_ BK199.out) Tryd.underlying26 rfl (by kernel_rfl)) rfl ?_
  exact ⟨_, by first | rfl | (simp [errW_none, errW_some] <;> rfl) | (simp [*, errW_none, errW_some] <;> rfl), by (with_reducible repeat (first | apply Kd.R_alloc | apply Kd.R_drewN | apply Kd.R_drew)); exact Kd.R_mono (rf_ gb199 (Kd.R_far (p := ⟨gb210, 2, none⟩) (Kd.R_types (Kd.R_types HO207.out BK210.out (by decide)) BK199.out (by decide)) (fun _ hk => hk.1.2) (.int .i64 t229)) (fun _ hk => hk.2)) (fun _ hk => trivial), IsS64.pk_ HI0.out, by exact hs_ HB.out, ku_ HK.out⟩
 rw [if_neg c38] at H
 have c38b0 : (t211 == 2) = false := beq_eq_false_iff_ne.mpr c38
 have c38b1 : (t211 != 2) = true := bne_iff_ne.mpr c38
 by_cases c55 : t211 = 3
 ·
  rw [if_pos c55] at H
  have c55b0 : (t211 == 3) = true := beq_iff_eq.mpr c55
  have c55b1 : (t211 != 3) = false := bne_eq_false_iff_eq.mpr c55
  clear c55
  obtain ⟨y232, hy232⟩ : ∃ y_ : List Int, y_ = (([0, 9, 10] : List Int)) := ⟨_, rfl⟩
  replace H : ((spec_l1Int.f s0_0 t212 t213 y232).bind fun bt235 => (some (t200, t201, t202, bt235.1, t204, t205, bt235.2.1, bt235.2.2))) = some (r1, r2, r3, r4, r5, r6, r7, r8) := by first | (rw [hy232]; with_reducible exact H) | (have H2_ := (Option.bind_some _ _).symm.trans H; rw [hy232]; with_reducible exact H2_) | (have H2_ := (Option.bind_some _ _).symm.trans H; with_reducible exact H2_) | with_reducible exact H | (rw [hy232]; exact H) | exact H
  have Ny232 := Aside0.mk hy232
  clear hy232
  replace H := Option.bind_eq_some_iff.mp H
  obtain ⟨⟨t235, t236, t237⟩, A560, H⟩ := H
  have A56 := Aside0.mk A560
  clear A560
  simp only [Option.some.injEq, Prod.mk.injEq] at H
  obtain ⟨rfl, rfl, rfl, rfl, rfl, rfl, rfl, rfl⟩ := H
  refine ⟨?_⟩
  go_wp2_with (first | ((with_reducible refine gate_callee (f := 43) rfl ?_); refine gl_ (some 7) Tryd.func43 #[.pointer (some ⟨g, 0, none⟩), .int .i64 14] ?_; (with_reducible refine (spec_l1Below.calls g s0_0 t208 t209 14 t211 t212 t213 w0 _ ?side1 ?side2 A3.out).mono ?_); (case side1 => exact IsS64.pk_ HI0.out); (case side2 => exact hs_ HB.out); rintro e w64 ⟨rfl, hi, hb, hk⟩; refine ⟨_, rfl, ?_⟩; replace BK199 := kc_ hk BK199 #[.int .i64 0, .int .i64 0, .int .i64 0, .int .i64 0, .int .i64 0, .slice none 0 0]; replace HO207 := Aside0.mk (Kd.R_mono (Kd.R_keep (IsS64.apart (IsS64.pk_ HI0.out) (by (with_reducible repeat (first | apply Kd.R_alloc | apply Kd.R_drewN | apply Kd.R_drew)); exact (Kd.R_mono (rf_ gb210 (Kd.R_types HO207.out BK210.out (by decide)) (fun _ hk => hk.2)) (fun _ h_ => h_.1))) (by decide)) hk (fun _ h => h.2)) (fun _ h => h.1)); replace BK210 := kc_ hk BK210 #[.int .i64 t200, .int .i64 t201, .int .i64 t202, .int .i64 t203, .int .i64 t204, .slice Ao12 t205.length co12]; replace HK := kh_ HK hk; replace HB := Aside0.mk (hb); replace HI0 := Aside0.mk (hi); (try clear hb); (try clear hk); (try clear hi)) | ((with_reducible refine gd_ 29 rfl ?_); refine Kd.R_lit (Kd.int .i64) _ 3 ?hg (N := 29) ?hd (xs := ([0, 9, 10] : List Int)) (inner := [.int .i64 0, .int .i64 9, .int .i64 10]) (ok := fun _ => True) (okp := fun _ => True) ?hr ?hp (fun _ hk => hk) trivial (Below.refl _ _) (Nat.le_refl _) (by simp) ?_; (case hd => rfl); (case hg => rfl); (case hr => first | (go_simp; done) | (go_simp; rfl)); (case hp => exact (Reps.one (show Kd.M (Kd.int .i64) _ _ _ 0 [.int .i64 0] from rfl) (Reps.one (show Kd.M (Kd.int .i64) _ _ _ 9 [.int .i64 9] from rfl) (Reps.one (show Kd.M (Kd.int .i64) _ _ _ 10 [.int .i64 10] from rfl) (Reps.none _ _))))); intro v233 w65 ho66 hb hg_ hnew_; clear hg_ hnew_; (first | rw [← Ny232.out] at ho66 | (simp only [Int.reduceToNat] at ho66; rw [← Ny232.out] at ho66)); replace HO207 := rb_ HO207 hb; have HO234 := rl_ ho66 HK; replace HI0 := IsS64.bk_ HI0 hb; replace BK199 := bk2_ BK199 hb; replace BK210 := bk2_ BK210 hb; replace HK := kt_ HK hb; replace HB := st_ HB hb; clear hb ho66; obtain ⟨Ao67, co67, eo67⟩ := Kd.R_slice HO234.out; subst eo67) | ((with_reducible refine gate_callee (f := 28) rfl ?_); refine gl_ (some 30) Tryd.func28 #[.pointer (some ⟨g, 0, none⟩), .slice Ao67 y232.length co67] ?_; (with_reducible refine (spec_l1Int.calls g s0_0 t212 t213 _ _ y232 t235 t236 t237 w0 _ ?side1 ?side2 ?side3 ?side4 ?side5 A56.out).mono ?_); (case side1 => exact IsS64.pk_ HI0.out); (case side2 => exact hs_ HB.out); (case side3 => exact cp_ ((Kd.R_reads' HO234.out).2.2)); (case side4 => exact (Kd.R_reads' HO234.out).2.1); (case side5 => exact far_slice (IsS64.own_ne HI0.out HO234.out (by decide))); rintro e w68 ⟨rfl, hi, hb, hk⟩; refine ⟨_, rfl, ?_⟩; replace BK199 := kb_ hk BK199; replace HO207 := IsS64.rk_ HI0 HO207 hk; replace BK210 := kb_ hk BK210; replace HO234 := IsS64.rk_ HI0 HO234 hk; replace HK := kh_ HK hk; replace HB := Aside0.mk (hb); replace HI0 := Aside0.mk (hi); (try clear hb); (try clear hk); (try clear hi); obtain ⟨z69_0, z69_1, z69_2, z69_3, z69_4, z69_5, y69_0, y69_1, y69_2, y69_3, y69_4, y69_5⟩ := bc6_ BK210.out; have hnb70 := NB199_0.out; have hnc70 := NB0_199.out; obtain ⟨z71_0, z71_1, z71_2, z71_3, z71_4, z71_5, y71_0, y71_1, y71_2, y71_3, y71_4, y71_5⟩ := bc6_ BK199.out))
  refine bodyPost_ret (results_cell_row rfl _ _ gb199 26 #[.int .i64 t200, .int .i64 t201, .int .i64 t202, .int .i64 t235, .int .i64 t204, .slice Ao12 t205.length co12] (0, 0) _ rfl (bp_ BK199.out) Tryd.underlying26 rfl (by kernel_rfl)) rfl ?_
  exact ⟨_, by first | rfl | (simp [errW_none, errW_some] <;> rfl) | (simp [*, errW_none, errW_some] <;> rfl), by (with_reducible repeat (first | apply Kd.R_alloc | apply Kd.R_drewN | apply Kd.R_drew)); exact Kd.R_mono (rf_ gb199 (Kd.R_far (p := ⟨gb210, 3, none⟩) (Kd.R_types (Kd.R_types HO207.out BK210.out (by decide)) BK199.out (by decide)) (fun _ hk => hk.1.2) (.int .i64 t235)) (fun _ hk => hk.2)) (fun _ hk => trivial), IsS64.pk_ HI0.out, by exact hs_ HB.out, ku_ HK.out⟩
 rw [if_neg c55] at H
 have c55b0 : (t211 == 3) = false := beq_eq_false_iff_ne.mpr c55
 have c55b1 : (t211 != 3) = true := bne_iff_ne.mpr c55
 by_cases c72 : t211 = 4
 ·
  rw [if_pos c72] at H
  have c72b0 : (t211 == 4) = true := beq_iff_eq.mpr c72
  have c72b1 : (t211 != 4) = false := bne_eq_false_iff_eq.mpr c72
  clear c72
  obtain ⟨y238, hy238⟩ : ∃ y_ : List Int, y_ = (([0, 9, 10] : List Int)) := ⟨_, rfl⟩
  replace H : ((spec_l1Int.f s0_0 t212 t213 y238).bind fun bt241 => (some (t200, t201, t202, t203, bt241.1, t205, bt241.2.1, bt241.2.2))) = some (r1, r2, r3, r4, r5, r6, r7, r8) := by first | (rw [hy238]; with_reducible exact H) | (have H2_ := (Option.bind_some _ _).symm.trans H; rw [hy238]; with_reducible exact H2_) | (have H2_ := (Option.bind_some _ _).symm.trans H; with_reducible exact H2_) | with_reducible exact H | (rw [hy238]; exact H) | exact H
  have Ny238 := Aside0.mk hy238
  clear hy238
  replace H := Option.bind_eq_some_iff.mp H
  obtain ⟨⟨t241, t242, t243⟩, A730, H⟩ := H
  have A73 := Aside0.mk A730
  clear A730
  simp only [Option.some.injEq, Prod.mk.injEq] at H
  obtain ⟨rfl, rfl, rfl, rfl, rfl, rfl, rfl, rfl⟩ := H
  refine ⟨?_⟩
  go_wp2_with (first | ((with_reducible refine gate_callee (f := 43) rfl ?_); refine gl_ (some 7) Tryd.func43 #[.pointer (some ⟨g, 0, none⟩), .int .i64 14] ?_; (with_reducible refine (spec_l1Below.calls g s0_0 t208 t209 14 t211 t212 t213 w0 _ ?side1 ?side2 A3.out).mono ?_); (case side1 => exact IsS64.pk_ HI0.out); (case side2 => exact hs_ HB.out); rintro e w81 ⟨rfl, hi, hb, hk⟩; refine ⟨_, rfl, ?_⟩; replace BK199 := kc_ hk BK199 #[.int .i64 0, .int .i64 0, .int .i64 0, .int .i64 0, .int .i64 0, .slice none 0 0]; replace HO207 := Aside0.mk (Kd.R_mono (Kd.R_keep (IsS64.apart (IsS64.pk_ HI0.out) (by (with_reducible repeat (first | apply Kd.R_alloc | apply Kd.R_drewN | apply Kd.R_drew)); exact (Kd.R_mono (rf_ gb210 (Kd.R_types HO207.out BK210.out (by decide)) (fun _ hk => hk.2)) (fun _ h_ => h_.1))) (by decide)) hk (fun _ h => h.2)) (fun _ h => h.1)); replace BK210 := kc_ hk BK210 #[.int .i64 t200, .int .i64 t201, .int .i64 t202, .int .i64 t203, .int .i64 t204, .slice Ao12 t205.length co12]; replace HK := kh_ HK hk; replace HB := Aside0.mk (hb); replace HI0 := Aside0.mk (hi); (try clear hb); (try clear hk); (try clear hi)) | ((with_reducible refine gd_ 35 rfl ?_); refine Kd.R_lit (Kd.int .i64) _ 3 ?hg (N := 35) ?hd (xs := ([0, 9, 10] : List Int)) (inner := [.int .i64 0, .int .i64 9, .int .i64 10]) (ok := fun _ => True) (okp := fun _ => True) ?hr ?hp (fun _ hk => hk) trivial (Below.refl _ _) (Nat.le_refl _) (by simp) ?_; (case hd => rfl); (case hg => rfl); (case hr => first | (go_simp; done) | (go_simp; rfl)); (case hp => exact (Reps.one (show Kd.M (Kd.int .i64) _ _ _ 0 [.int .i64 0] from rfl) (Reps.one (show Kd.M (Kd.int .i64) _ _ _ 9 [.int .i64 9] from rfl) (Reps.one (show Kd.M (Kd.int .i64) _ _ _ 10 [.int .i64 10] from rfl) (Reps.none _ _))))); intro v239 w82 ho83 hb hg_ hnew_; clear hg_ hnew_; (first | rw [← Ny238.out] at ho83 | (simp only [Int.reduceToNat] at ho83; rw [← Ny238.out] at ho83)); replace HO207 := rb_ HO207 hb; have HO240 := rl_ ho83 HK; replace HI0 := IsS64.bk_ HI0 hb; replace BK199 := bk2_ BK199 hb; replace BK210 := bk2_ BK210 hb; replace HK := kt_ HK hb; replace HB := st_ HB hb; clear hb ho83; obtain ⟨Ao84, co84, eo84⟩ := Kd.R_slice HO240.out; subst eo84) | ((with_reducible refine gate_callee (f := 28) rfl ?_); refine gl_ (some 36) Tryd.func28 #[.pointer (some ⟨g, 0, none⟩), .slice Ao84 y238.length co84] ?_; (with_reducible refine (spec_l1Int.calls g s0_0 t212 t213 _ _ y238 t241 t242 t243 w0 _ ?side1 ?side2 ?side3 ?side4 ?side5 A73.out).mono ?_); (case side1 => exact IsS64.pk_ HI0.out); (case side2 => exact hs_ HB.out); (case side3 => exact cp_ ((Kd.R_reads' HO240.out).2.2)); (case side4 => exact (Kd.R_reads' HO240.out).2.1); (case side5 => exact far_slice (IsS64.own_ne HI0.out HO240.out (by decide))); rintro e w85 ⟨rfl, hi, hb, hk⟩; refine ⟨_, rfl, ?_⟩; replace BK199 := kb_ hk BK199; replace HO207 := IsS64.rk_ HI0 HO207 hk; replace BK210 := kb_ hk BK210; replace HO240 := IsS64.rk_ HI0 HO240 hk; replace HK := kh_ HK hk; replace HB := Aside0.mk (hb); replace HI0 := Aside0.mk (hi); (try clear hb); (try clear hk); (try clear hi); obtain ⟨z86_0, z86_1, z86_2, z86_3, z86_4, z86_5, y86_0, y86_1, y86_2, y86_3, y86_4, y86_5⟩ := bc6_ BK210.out; have hnb87 := NB199_0.out; have hnc87 := NB0_199.out; obtain ⟨z88_0, z88_1, z88_2, z88_3, z88_4, z88_5, y88_0, y88_1, y88_2, y88_3, y88_4, y88_5⟩ := bc6_ BK199.out))
  refine bodyPost_ret (results_cell_row rfl _ _ gb199 26 #[.int .i64 t200, .int .i64 t201, .int .i64 t202, .int .i64 t203, .int .i64 t241, .slice Ao12 t205.length co12] (0, 0) _ rfl (bp_ BK199.out) Tryd.underlying26 rfl (by kernel_rfl)) rfl ?_
  exact ⟨_, by first | rfl | (simp [errW_none, errW_some] <;> rfl) | (simp [*, errW_none, errW_some] <;> rfl), by (with_reducible repeat (first | apply Kd.R_alloc | apply Kd.R_drewN | apply Kd.R_drew)); exact Kd.R_mono (rf_ gb199 (Kd.R_far (p := ⟨gb210, 4, none⟩) (Kd.R_types (Kd.R_types HO207.out BK210.out (by decide)) BK199.out (by decide)) (fun _ hk => hk.1.2) (.int .i64 t241)) (fun _ hk => hk.2)) (fun _ hk => trivial), IsS64.pk_ HI0.out, by exact hs_ HB.out, ku_ HK.out⟩
 rw [if_neg c72] at H
 have c72b0 : (t211 == 4) = false := beq_eq_false_iff_ne.mpr c72
 have c72b1 : (t211 != 4) = true := bne_iff_ne.mpr c72
 by_cases c89 : t211 = 5
 ·
  rw [if_pos c89] at H
  have c89b0 : (t211 == 5) = true := beq_iff_eq.mpr c89
  have c89b1 : (t211 != 5) = false := bne_eq_false_iff_eq.mpr c89
  clear c89
  replace H := Option.bind_eq_some_iff.mp H
  obtain ⟨⟨t244, t247, t248⟩, A900, H⟩ := H
  have A90 := Aside0.mk A900
  clear A900
  simp only [Option.some.injEq, Prod.mk.injEq] at H
  obtain ⟨rfl, rfl, rfl, rfl, rfl, rfl, rfl, rfl⟩ := H
  refine ⟨?_⟩
  go_wp2_with (first | ((with_reducible refine gate_callee (f := 43) rfl ?_); refine gl_ (some 7) Tryd.func43 #[.pointer (some ⟨g, 0, none⟩), .int .i64 14] ?_; (with_reducible refine (spec_l1Below.calls g s0_0 t208 t209 14 t211 t212 t213 w0 _ ?side1 ?side2 A3.out).mono ?_); (case side1 => exact IsS64.pk_ HI0.out); (case side2 => exact hs_ HB.out); rintro e w98 ⟨rfl, hi, hb, hk⟩; refine ⟨_, rfl, ?_⟩; replace BK199 := kc_ hk BK199 #[.int .i64 0, .int .i64 0, .int .i64 0, .int .i64 0, .int .i64 0, .slice none 0 0]; replace HO207 := Aside0.mk (Kd.R_mono (Kd.R_keep (IsS64.apart (IsS64.pk_ HI0.out) (by (with_reducible repeat (first | apply Kd.R_alloc | apply Kd.R_drewN | apply Kd.R_drew)); exact (Kd.R_mono (rf_ gb210 (Kd.R_types HO207.out BK210.out (by decide)) (fun _ hk => hk.2)) (fun _ h_ => h_.1))) (by decide)) hk (fun _ h => h.2)) (fun _ h => h.1)); replace BK210 := kc_ hk BK210 #[.int .i64 t200, .int .i64 t201, .int .i64 t202, .int .i64 t203, .int .i64 t204, .slice Ao12 t205.length co12]; replace HK := kh_ HK hk; replace HB := Aside0.mk (hb); replace HI0 := Aside0.mk (hi); (try clear hb); (try clear hk); (try clear hi)) | ((with_reducible refine gate_callee (f := 44) rfl ?_); refine gl_ (some 41) Tryd.func44 #[.pointer (some ⟨g, 0, none⟩)] ?_; (with_reducible refine (spec_l5Any.calls g s0_0 t212 t213 t244 t247 t248 w0 _ ?side1 ?side2 A90.out).mono ?_); (case side1 => exact IsS64.pk_ HI0.out); (case side2 => exact hs_ HB.out); rintro e w99 ⟨v245, rfl, ho0, hi, hb, hk⟩; refine ⟨_, rfl, ?_⟩; replace BK199 := kb_ hk BK199; replace BK210 := kb_ hk BK210; have HO246 := Aside0.mk (Kd.R_lower (Kd.R_new' ho0 (Kd.R_lt (rp_ HO207.out))) (ks_ HK)); replace HO207 := Aside0.mk (Kd.R_mono (Kd.R_told (Kd.R_oldK (IsS64.apart (IsS64.pk_ HI0.out) (rp_ HO207.out) (by decide)) hk) (Kd.R_base ho0)) (fun _ h_ => h_.1)); replace HK := kh_ HK hk; replace HB := Aside0.mk (hb); replace HI0 := Aside0.mk (hi); (try clear hb); (try clear hk); (try clear hi); (try clear ho0); obtain ⟨Ao100, co100, eo100⟩ := Kd.R_slice HO246.out; subst eo100; obtain ⟨z101_0, z101_1, z101_2, z101_3, z101_4, z101_5, y101_0, y101_1, y101_2, y101_3, y101_4, y101_5⟩ := bc6_ BK210.out; have hnb102 := NB199_0.out; have hnc102 := NB0_199.out; obtain ⟨z103_0, z103_1, z103_2, z103_3, z103_4, z103_5, y103_0, y103_1, y103_2, y103_3, y103_4, y103_5⟩ := bc6_ BK199.out))
  refine bodyPost_ret (results_cell_row rfl _ _ gb199 26 #[.int .i64 t200, .int .i64 t201, .int .i64 t202, .int .i64 t203, .int .i64 t204, .slice Ao100 t244.length co100] (0, 0) _ rfl (bp_ BK199.out) Tryd.underlying26 rfl (by kernel_rfl)) rfl ?_
  exact ⟨_, by first | rfl | (simp [errW_none, errW_some] <;> rfl) | (simp [*, errW_none, errW_some] <;> rfl), by (with_reducible repeat (first | apply Kd.R_alloc | apply Kd.R_drewN | apply Kd.R_drew)); exact Kd.R_mono (rf_ gb199 (Kd.R_far (p := ⟨gb210, 5, none⟩) (Kd.R_types (Kd.R_types HO246.out BK210.out (by decide)) BK199.out (by decide)) (fun _ hk => hk.1.2) (.slice Ao100 t244.length co100)) (fun _ hk => hk.2)) (fun _ hk => trivial), IsS64.pk_ HI0.out, by exact hs_ HB.out, ku_ HK.out⟩
 rw [if_neg c89] at H
 have c89b0 : (t211 == 5) = false := beq_eq_false_iff_ne.mpr c89
 have c89b1 : (t211 != 5) = true := bne_iff_ne.mpr c89
 simp only [Option.some.injEq, Prod.mk.injEq] at H
 obtain ⟨rfl, rfl, rfl, rfl, rfl, rfl, rfl, rfl⟩ := H
 refine ⟨?_⟩
 go_wp2_with (first | ((with_reducible refine gate_callee (f := 43) rfl ?_); refine gl_ (some 7) Tryd.func43 #[.pointer (some ⟨g, 0, none⟩), .int .i64 14] ?_; (with_reducible refine (spec_l1Below.calls g s0_0 t208 t209 14 t211 t212 t213 w0 _ ?side1 ?side2 A3.out).mono ?_); (case side1 => exact IsS64.pk_ HI0.out); (case side2 => exact hs_ HB.out); rintro e w111 ⟨rfl, hi, hb, hk⟩; refine ⟨_, rfl, ?_⟩; replace BK199 := kc_ hk BK199 #[.int .i64 0, .int .i64 0, .int .i64 0, .int .i64 0, .int .i64 0, .slice none 0 0]; replace HO207 := Aside0.mk (Kd.R_mono (Kd.R_keep (IsS64.apart (IsS64.pk_ HI0.out) (by (with_reducible repeat (first | apply Kd.R_alloc | apply Kd.R_drewN | apply Kd.R_drew)); exact (Kd.R_mono (rf_ gb210 (Kd.R_types HO207.out BK210.out (by decide)) (fun _ hk => hk.2)) (fun _ h_ => h_.1))) (by decide)) hk (fun _ h => h.2)) (fun _ h => h.1)); replace BK210 := kc_ hk BK210 #[.int .i64 t200, .int .i64 t201, .int .i64 t202, .int .i64 t203, .int .i64 t204, .slice Ao12 t205.length co12]; replace HK := kh_ HK hk; replace HB := Aside0.mk (hb); replace HI0 := Aside0.mk (hi); (try clear hb); (try clear hk); (try clear hi); obtain ⟨z112_0, z112_1, z112_2, z112_3, z112_4, z112_5, y112_0, y112_1, y112_2, y112_3, y112_4, y112_5⟩ := bc6_ BK210.out; have hnb113 := NB199_0.out; have hnc113 := NB0_199.out; obtain ⟨z114_0, z114_1, z114_2, z114_3, z114_4, z114_5, y114_0, y114_1, y114_2, y114_3, y114_4, y114_5⟩ := bc6_ BK199.out))
 refine bodyPost_ret (results_cell_row rfl _ _ gb199 26 #[.int .i64 t200, .int .i64 t201, .int .i64 t202, .int .i64 t203, .int .i64 t204, .slice Ao12 t205.length co12] (0, 0) _ rfl (bp_ BK199.out) Tryd.underlying26 rfl (by kernel_rfl)) rfl ?_
 exact ⟨_, by first | rfl | (simp [errW_none, errW_some] <;> rfl) | (simp [*, errW_none, errW_some] <;> rfl), by (with_reducible repeat (first | apply Kd.R_alloc | apply Kd.R_drewN | apply Kd.R_drew)); exact Kd.R_mono (rf_ gb199 (Kd.R_types HO207.out BK199.out (by decide)) (fun _ hk => hk.2)) (fun _ hk => trivial), IsS64.pk_ HI0.out, by exact hs_ HB.out, ku_ HK.out⟩
def spec_DrawConfOk.f (k : Nat) (l0 : List Int) : Option (Int × Int × Int × Int × Int × List ByteArray) := (spec_l1New.f k l0).bind fun bt250 => ((spec_l13Any.f bt250.1 bt250.2.1 bt250.2.2).bind fun bt254 => (some (bt254.1, bt254.2.1, bt254.2.2.1, bt254.2.2.2.1, bt254.2.2.2.2.1, bt254.2.2.2.2.2.1)))
theorem spec_DrawConfOk.mono : ∀ a0 k, LeO (spec_DrawConfOk.f k a0) (spec_DrawConfOk.f (k + 1) a0) := by
 intro a0 k
 unfold spec_DrawConfOk.f
 repeat' first | (with_reducible first | exact spec_l1New.mono _ _ | exact LeO.refl _ | exact LeO.none _ | refine LeO.ite ?_ ?_ | refine LeO.bind ?_ (fun _ => ?_)) | exact spec_l1New.mono _ _
theorem spec_DrawConfOk.calls (k : Nat) (A0 : Option Addr) (c0 : Nat) (l0 : List Int) (r1 : Int) (r2 : Int) (r3 : Int) (r4 : Int) (r5 : Int) (r6 : List ByteArray) (w : World) (hr0 : Kd.C (Kd.int .u8) w A0 l0.length l0) (hc0 : l0.length ≤ c0) (h : spec_DrawConfOk.f k l0 = some (r1, r2, r3, r4, r5, r6)) :
  Calls Tryd.prog 5 #[.slice A0 l0.length c0] w fun e w' => ∃ v5_ : Value, e = .returned (.agg #[.int .i64 r1, .int .i64 r2, .int .i64 r3, .int .i64 r4, .int .i64 r5, v5_]) ∧ Kd.R Kd.string 9 w' w.heap.size (fun _ => True) v5_ r6 ∧ Below w.heap.size w w' := by
 have hu26 := Tryd.underlying26
 have HR0 := Aside0.mk hr0
 have HC0 := Aside0.mk hc0
 clear hr0 hc0
 have HB := Aside0.mk (Below.refl w.heap.size w)
 have H : ((spec_l1New.f k l0).bind fun bt250 => ((spec_l13Any.f bt250.1 bt250.2.1 bt250.2.2).bind fun bt254 => (some (bt254.1, bt254.2.1, bt254.2.2.1, bt254.2.2.2.1, bt254.2.2.2.2.1, bt254.2.2.2.2.2.1)))) = some (r1, r2, r3, r4, r5, r6) := h
 clear h
 replace H := Option.bind_eq_some_iff.mp H
 obtain ⟨⟨t250, t251, t252⟩, A20, H⟩ := H
 have A2 := Aside0.mk A20
 clear A20
 replace H := Option.bind_eq_some_iff.mp H
 obtain ⟨⟨t254, t255, t256, t257, t258, t259, t262, t263⟩, A30, H⟩ := H
 have A3 := Aside0.mk A30
 clear A30
 simp only [Option.some.injEq, Prod.mk.injEq] at H
 obtain ⟨rfl, rfl, rfl, rfl, rfl, rfl⟩ := H
 go_enter Tryd.func5, Tryd.ntmps5
 go_wp2_with (first | ((with_reducible refine gd_ 2 rfl ?_); refine bv_ 2 #[.int .i64 0, .int .i64 0, .int .i64 0, .int .i64 0, .int .i64 0, .slice none 0 0] 26 ?_; intro gb249 hg w4 hbox hb; have BK249 := Aside0.mk (hbox); have GW249 := Ge_.mk ((gw_ hg (hs_ HB.out))); replace HB := st_ HB hb; have GE249 := Ge_.mk GW249.out; clear hb hbox hg) | ((with_reducible refine gate_callee (f := 22) rfl ?_); refine gl_ (some 5) Tryd.func22 #[.slice A0 l0.length c0] ?_; (with_reducible refine (spec_l1New.calls k _ _ l0 t250 t251 t252 w _ ?side1 ?side2 ?side3 A2.out).mono ?_); (case side1 => exact hs_ HB.out); (case side2 => exact HR0.out); (case side3 => exact HC0.out); rintro e w5 ⟨g253, rfl, hi, hb, hb2⟩; refine ⟨_, rfl, ?_⟩; replace HB := Aside0.mk (hb); have HI253 := Aside0.mk (hi); have NB253_249 := Ne_.mk (IsS64.ne_blk hi (bb_ BK249.out hb2) (by decide)); have NB249_253 := Ne_.mk (Ne.symm (IsS64.ne_blk hi (bb_ BK249.out hb2) (by decide))); replace BK249 := Aside0.mk (bb_ BK249.out hb2); (try clear hb); (try clear hb2); (try clear hk); (try clear hi)) | ((with_reducible refine gate_callee (f := 23) rfl ?_); refine gl_ (some 7) Tryd.func23 #[.pointer (some ⟨g253, 0, none⟩)] ?_; (with_reducible refine (spec_l13Any.calls g253 t250 t251 t252 t254 t255 t256 t257 t258 t259 t262 t263 w _ ?side1 ?side2 A3.out).mono ?_); (case side1 => exact IsS64.pk_ HI253.out); (case side2 => exact hs_ HB.out); rintro e w6 ⟨v260, rfl, ho0, hi, hb, hk⟩; refine ⟨_, rfl, ?_⟩; replace BK249 := kb_ hk BK249; have HO261 := Aside0.mk (Kd.R_lower ho0 (below_size (hs_ HB.out))); replace HB := Aside0.mk (hb); replace HI253 := Aside0.mk (hi); (try clear hb); (try clear hb2); (try clear hk); (try clear hi); (try clear ho0); have hnb7 := NB249_253.out; have hnc7 := NB253_249.out; obtain ⟨z8_0, z8_1, z8_2, z8_3, z8_4, z8_5, y8_0, y8_1, y8_2, y8_3, y8_4, y8_5⟩ := bc6_ BK249.out; obtain ⟨Ao9, co9, eo9⟩ := Kd.R_slice HO261.out; subst eo9))
 refine bodyPost_ret (results_cell_row rfl _ _ gb249 26 #[.int .i64 t254, .int .i64 t255, .int .i64 t256, .int .i64 t257, .int .i64 t258, .slice Ao9 t259.length co9] (0, 0) _ rfl (bp_ BK249.out) Tryd.underlying26 rfl (by kernel_rfl)) rfl ?_
 exact ⟨_, by first | rfl | (simp [errW_none, errW_some] <;> rfl) | (simp [*, errW_none, errW_some] <;> rfl), by (with_reducible repeat (first | apply Kd.R_alloc | apply Kd.R_drewN | apply Kd.R_drew)); exact Kd.R_mono (rf_ gb249 (Kd.R_types HO261.out BK249.out (by decide)) (fun _ hk => hk.2)) (fun _ hk => trivial), by exact hs_ HB.out⟩
def spec_l13Copy.f (a0_0 : Int) (a0_1 : Int) (a0_2 : Int) (a0_3 : Int) (a0_4 : Int) (l0_5 : List ByteArray) : Option (Int × Int × Int × Int × Int × List ByteArray) := (some (([] : List ByteArray) : List ByteArray)).bind fun y266 => (if y266.length + l0_5.length < 8796093022208 then (some (a0_0, a0_1, a0_2, a0_3, a0_4, (y266 ++ l0_5))) else (none))
theorem spec_l13Copy.calls (a0_0 : Int) (a0_1 : Int) (a0_2 : Int) (a0_3 : Int) (a0_4 : Int) (A0_5 : Option Addr) (c0_5 : Nat) (l0_5 : List ByteArray) (r1 : Int) (r2 : Int) (r3 : Int) (r4 : Int) (r5 : Int) (r6 : List ByteArray) (w : World) (hr0_5 : Kd.C Kd.string w A0_5 l0_5.length l0_5) (hc0_5 : l0_5.length ≤ c0_5) (h : spec_l13Copy.f a0_0 a0_1 a0_2 a0_3 a0_4 l0_5 = some (r1, r2, r3, r4, r5, r6)) :
  Calls Tryd.prog 25 #[.agg #[.int .i64 a0_0, .int .i64 a0_1, .int .i64 a0_2, .int .i64 a0_3, .int .i64 a0_4, .slice A0_5 l0_5.length c0_5]] w fun e w' => ∃ v5_ : Value, e = .returned (.agg #[.int .i64 r1, .int .i64 r2, .int .i64 r3, .int .i64 r4, .int .i64 r5, v5_]) ∧ Kd.R Kd.string 9 w' w.heap.size (fun _ => True) v5_ r6 ∧ Below w.heap.size w w' := by
 have hu26 := Tryd.underlying26
 have HR0_5 := Aside0.mk hr0_5
 have HC0_5 := Aside0.mk hc0_5
 clear hr0_5 hc0_5
 have HB := Aside0.mk (Below.refl w.heap.size w)
 have H : ((some (([] : List ByteArray) : List ByteArray)).bind fun y266 => (if y266.length + l0_5.length < 8796093022208 then (some (a0_0, a0_1, a0_2, a0_3, a0_4, (y266 ++ l0_5))) else (none))) = some (r1, r2, r3, r4, r5, r6) := h
 clear h
 obtain ⟨y266, hy266⟩ : ∃ y_ : List ByteArray, y_ = (([] : List ByteArray)) := ⟨_, rfl⟩
 replace H : (if y266.length + l0_5.length < 8796093022208 then (some (a0_0, a0_1, a0_2, a0_3, a0_4, (y266 ++ l0_5))) else (none)) = some (r1, r2, r3, r4, r5, r6) := by first | (rw [hy266]; with_reducible exact H) | (have H2_ := (Option.bind_some _ _).symm.trans H; rw [hy266]; with_reducible exact H2_) | (have H2_ := (Option.bind_some _ _).symm.trans H; with_reducible exact H2_) | with_reducible exact H | (rw [hy266]; exact H) | exact H
 have Ny266 := Aside0.mk hy266
 clear hy266
 by_cases c2 : y266.length + l0_5.length < 8796093022208
 ·
  rw [if_pos c2] at H
  have LMc2 := Aside0.mk c2
  clear c2
  obtain ⟨y269, hy269⟩ : ∃ y_ : List ByteArray, y_ = (y266 ++ l0_5) := ⟨_, rfl⟩
  replace H : (some (a0_0, a0_1, a0_2, a0_3, a0_4, y269)) = some (r1, r2, r3, r4, r5, r6) := by first | (rw [hy269]; with_reducible exact H) | (have H2_ := (Option.bind_some _ _).symm.trans H; rw [hy269]; with_reducible exact H2_) | (have H2_ := (Option.bind_some _ _).symm.trans H; with_reducible exact H2_) | with_reducible exact H | (rw [hy269]; exact H) | exact H
  have Ny269 := Aside0.mk hy269
  clear hy269
  simp only [Option.some.injEq, Prod.mk.injEq] at H
  obtain ⟨rfl, rfl, rfl, rfl, rfl, rfl⟩ := H
  go_enter Tryd.func25, Tryd.ntmps25
  go_wp2_with (first | ((with_reducible refine gd_ 1 rfl ?_); refine bv_ 1 #[.int .i64 a0_0, .int .i64 a0_1, .int .i64 a0_2, .int .i64 a0_3, .int .i64 a0_4, .slice A0_5 l0_5.length c0_5] 26 ?_; intro gb264 hg w3 hbox hb; have BK264 := Aside0.mk (hbox); have GW264 := Ge_.mk ((gw_ hg (hs_ HB.out))); replace HB := st_ HB hb; have GE264 := Ge_.mk GW264.out; clear hb hbox hg) | ((with_reducible refine gd_ 2 rfl ?_); refine bv_ 2 #[.int .i64 0, .int .i64 0, .int .i64 0, .int .i64 0, .int .i64 0, .slice none 0 0] 26 ?_; intro gb265 hg w4 hbox hb; have BK265 := Aside0.mk (hbox); have GW265 := Ge_.mk ((gw_ hg (hs_ HB.out))); replace HB := st_ HB hb; have GE265 := Ge_.mk GW265.out; have NB264_265 := nk_ BK264 hg; replace BK264 := bk2_ BK264 hb; have NB265_264 := ns_ NB264_265; clear hb hbox hg) | ((with_reducible refine gd_ 3 rfl ?_); refine Kd.R_lit Kd.string _ 9 ?hg (N := 3) ?hd (xs := ([] : List ByteArray)) (inner := []) (ok := fun _ => True) (okp := fun _ => True) ?hr ?hp (fun _ hk => hk) trivial (Below.refl _ _) (Nat.le_refl _) (by simp) ?_; (case hd => rfl); (case hg => rfl); (case hr => first | (go_simp; done) | (go_simp; rfl)); (case hp => exact (Reps.none _ _)); intro v267 w5 ho6 hb hg_ hnew_; clear hg_ hnew_; (first | rw [← Ny266.out] at ho6 | (simp only [Int.reduceToNat] at ho6; rw [← Ny266.out] at ho6)); have HO268 := Aside0.mk (Kd.R_lower ho6 (below_size (hs_ HB.out))); replace BK264 := bk2_ BK264 hb; replace BK265 := bk2_ BK265 hb; replace HB := st_ HB hb; clear hb ho6; have hnb7 := NB264_265.out; have hnc7 := NB265_264.out; obtain ⟨z8_0, z8_1, z8_2, z8_3, z8_4, z8_5, y8_0, y8_1, y8_2, y8_3, y8_4, y8_5⟩ := bc6_ BK264.out) | ((with_reducible refine gate_builtin (b := .append) (xs := #[.tmp 3, .tmp 5]) rfl ?_); at_builtin; refine Kd.R_append_rows Kd.string (w0 := w) w.heap.size rfl (.tmp 3) (.tmp 5) 24 9 (.string ⟨#[]⟩) 16 rfl Tryd.underlying24 info9 rfl (by decide) (by omega) v267 y266 l0_5 _ _ _ (fun _ => True) (fun _ => False) rfl rfl ?aO ?aR (fun _ _ h => h) (fun _ h => h.elim) ?aF ?aB ?aS ?aL ?_; (case aR => repeat (first | exact (Kd.C_below HR0_5.out HB.out) | (with_reducible first | refine ca_ ?_ _ | refine cn_ ?_ _ | refine cd_ ?_))); (case aB => exact (hs_ HB.out)); (case aF => exact (fun _ _ => trivial)); (case aO => exact (rp_ HO268.out)); (case aS => exact (below_size (hs_ HB.out))); (case aL => have := LMc2.out; omega); intro v270 w9 ho hb hg hat; rw [← Ny269.out] at ho; replace BK264 := Aside0.mk (blk_grown (bq_ BK264.out) hg (Kd.R_ne HO268.out BK264.out (by decide))); replace BK265 := Aside0.mk (blk_grown (bq_ BK265.out) hg (Kd.R_ne HO268.out BK265.out (by decide))); replace HB := Aside0.mk (hb); have HO271 := Aside0.mk (ho); clear HO268; clear ho hb hg hat; obtain ⟨Ao10, co10, eo10⟩ := Kd.R_slice HO271.out; subst eo10; obtain ⟨z11_0, z11_1, z11_2, z11_3, z11_4, z11_5, y11_0, y11_1, y11_2, y11_3, y11_4, y11_5⟩ := bc6_ BK264.out; obtain ⟨z12_0, z12_1, z12_2, z12_3, z12_4, z12_5, y12_0, y12_1, y12_2, y12_3, y12_4, y12_5⟩ := bc6_ BK265.out))
  refine bodyPost_ret (results_cell_row rfl _ _ gb265 26 #[.int .i64 a0_0, .int .i64 a0_1, .int .i64 a0_2, .int .i64 a0_3, .int .i64 a0_4, .slice Ao10 y269.length co10] (0, 0) _ rfl (bp_ BK265.out) Tryd.underlying26 rfl (by kernel_rfl)) rfl ?_
  exact ⟨_, by first | rfl | (simp [errW_none, errW_some] <;> rfl) | (simp [*, errW_none, errW_some] <;> rfl), by (with_reducible repeat (first | apply Kd.R_alloc | apply Kd.R_drewN | apply Kd.R_drew)); exact Kd.R_mono (rf_ gb265 (Kd.R_far (p := ⟨gb264, 5, none⟩) (Kd.R_types (Kd.R_types HO271.out BK264.out (by decide)) BK265.out (by decide)) (fun _ hk => hk.1.2) (.slice Ao10 y269.length co10)) (fun _ hk => hk.2)) (fun _ hk => trivial), by exact hs_ HB.out⟩
 rw [if_neg c2] at H
 exact absurd H (by simp)
def spec_DrawSameConf.f (k : Nat) (l0 : List Int) : Option (Int × Int × Int × Int × Int × List ByteArray × Int × Int × Int × Int × Int × List ByteArray) := (spec_l1New.f k l0).bind fun bt274 => ((spec_l13Any.f bt274.1 bt274.2.1 bt274.2.2).bind fun bt278 => ((spec_l1Once.f bt274.1 bt278.2.2.2.2.2.2.1 bt278.2.2.2.2.2.2.2 2).bind fun bt289 => (if bt289.1 = true then ((spec_l13Copy.f bt278.1 bt278.2.1 bt278.2.2.1 bt278.2.2.2.1 bt278.2.2.2.2.1 bt278.2.2.2.2.2.1).bind fun bt292 => (some (bt278.1, bt278.2.1, bt278.2.2.1, bt278.2.2.2.1, bt278.2.2.2.2.1, bt278.2.2.2.2.2.1, bt292.1, bt292.2.1, bt292.2.2.1, bt292.2.2.2.1, bt292.2.2.2.2.1, bt292.2.2.2.2.2))) else ((spec_l13Any.f bt274.1 bt289.2.1 bt289.2.2).bind fun bt300 => (some (bt278.1, bt278.2.1, bt278.2.2.1, bt278.2.2.2.1, bt278.2.2.2.2.1, bt278.2.2.2.2.2.1, bt300.1, bt300.2.1, bt300.2.2.1, bt300.2.2.2.1, bt300.2.2.2.2.1, bt300.2.2.2.2.2.1))))))
theorem spec_DrawSameConf.mono : ∀ a0 k, LeO (spec_DrawSameConf.f k a0) (spec_DrawSameConf.f (k + 1) a0) := by
 intro a0 k
 unfold spec_DrawSameConf.f
 repeat' first | (with_reducible first | exact spec_l1New.mono _ _ | exact LeO.refl _ | exact LeO.none _ | refine LeO.ite ?_ ?_ | refine LeO.bind ?_ (fun _ => ?_)) | exact spec_l1New.mono _ _
theorem spec_DrawSameConf.calls (k : Nat) (A0 : Option Addr) (c0 : Nat) (l0 : List Int) (r1 : Int) (r2 : Int) (r3 : Int) (r4 : Int) (r5 : Int) (r6 : List ByteArray) (r7 : Int) (r8 : Int) (r9 : Int) (r10 : Int) (r11 : Int) (r12 : List ByteArray) (w : World) (hr0 : Kd.C (Kd.int .u8) w A0 l0.length l0) (hc0 : l0.length ≤ c0) (h : spec_DrawSameConf.f k l0 = some (r1, r2, r3, r4, r5, r6, r7, r8, r9, r10, r11, r12)) :
  Calls Tryd.prog 6 #[.slice A0 l0.length c0] w fun e w' => ∃ v5_ v11_ : Value, e = .returned (.tuple #[.agg #[.int .i64 r1, .int .i64 r2, .int .i64 r3, .int .i64 r4, .int .i64 r5, v5_], .agg #[.int .i64 r7, .int .i64 r8, .int .i64 r9, .int .i64 r10, .int .i64 r11, v11_]]) ∧ Kd.R Kd.string 9 w' w.heap.size (fun k_ => some k_ ≠ (v11_ : Value).ownBlock) v5_ r6 ∧ Kd.R Kd.string 9 w' w.heap.size (fun k_ => some k_ ≠ (v5_ : Value).ownBlock) v11_ r12 ∧ Below w.heap.size w w' := by
 have hu26 := Tryd.underlying26
 have HR0 := Aside0.mk hr0
 have HC0 := Aside0.mk hc0
 clear hr0 hc0
 have HB := Aside0.mk (Below.refl w.heap.size w)
 have H : ((spec_l1New.f k l0).bind fun bt274 => ((spec_l13Any.f bt274.1 bt274.2.1 bt274.2.2).bind fun bt278 => ((spec_l1Once.f bt274.1 bt278.2.2.2.2.2.2.1 bt278.2.2.2.2.2.2.2 2).bind fun bt289 => (if bt289.1 = true then ((spec_l13Copy.f bt278.1 bt278.2.1 bt278.2.2.1 bt278.2.2.2.1 bt278.2.2.2.2.1 bt278.2.2.2.2.2.1).bind fun bt292 => (some (bt278.1, bt278.2.1, bt278.2.2.1, bt278.2.2.2.1, bt278.2.2.2.2.1, bt278.2.2.2.2.2.1, bt292.1, bt292.2.1, bt292.2.2.1, bt292.2.2.2.1, bt292.2.2.2.2.1, bt292.2.2.2.2.2))) else ((spec_l13Any.f bt274.1 bt289.2.1 bt289.2.2).bind fun bt300 => (some (bt278.1, bt278.2.1, bt278.2.2.1, bt278.2.2.2.1, bt278.2.2.2.2.1, bt278.2.2.2.2.2.1, bt300.1, bt300.2.1, bt300.2.2.1, bt300.2.2.2.1, bt300.2.2.2.2.1, bt300.2.2.2.2.2.1))))))) = some (r1, r2, r3, r4, r5, r6, r7, r8, r9, r10, r11, r12) := h
 clear h
 replace H := Option.bind_eq_some_iff.mp H
 obtain ⟨⟨t274, t275, t276⟩, A20, H⟩ := H
 have A2 := Aside0.mk A20
 clear A20
 replace H := Option.bind_eq_some_iff.mp H
 obtain ⟨⟨t278, t279, t280, t281, t282, t283, t286, t287⟩, A30, H⟩ := H
 have A3 := Aside0.mk A30
 clear A30
 replace H := Option.bind_eq_some_iff.mp H
 obtain ⟨⟨t289, t290, t291⟩, A40, H⟩ := H
 have A4 := Aside0.mk A40
 clear A40
 have AHz_ := Aside0.mk H
 clear H
 go_enter Tryd.func6, Tryd.ntmps6
 try go_wp2_with (first | ((with_reducible refine gd_ 2 rfl ?_); refine bv_ 2 #[.int .i64 0, .int .i64 0, .int .i64 0, .int .i64 0, .int .i64 0, .slice none 0 0] 26 ?_; intro gb272 hg w7 hbox hb; have BK272 := Aside0.mk (hbox); have GW272 := Ge_.mk ((gw_ hg (hs_ HB.out))); replace HB := st_ HB hb; have GE272 := Ge_.mk GW272.out; clear hb hbox hg) | ((with_reducible refine gd_ 3 rfl ?_); refine bv_ 3 #[.int .i64 0, .int .i64 0, .int .i64 0, .int .i64 0, .int .i64 0, .slice none 0 0] 26 ?_; intro gb273 hg w8 hbox hb; have BK273 := Aside0.mk (hbox); have GW273 := Ge_.mk ((gw_ hg (hs_ HB.out))); replace HB := st_ HB hb; have GE273 := Ge_.mk GW273.out; have NB272_273 := nk_ BK272 hg; replace BK272 := bk2_ BK272 hb; have NB273_272 := ns_ NB272_273; clear hb hbox hg) | ((with_reducible refine gate_callee (f := 22) rfl ?_); refine gl_ (some 7) Tryd.func22 #[.slice A0 l0.length c0] ?_; (with_reducible refine (spec_l1New.calls k _ _ l0 t274 t275 t276 w _ ?side1 ?side2 ?side3 A2.out).mono ?_); (case side1 => exact hs_ HB.out); (case side2 => exact HR0.out); (case side3 => exact HC0.out); rintro e w9 ⟨g277, rfl, hi, hb, hb2⟩; refine ⟨_, rfl, ?_⟩; replace HB := Aside0.mk (hb); have HI277 := Aside0.mk (hi); have NB277_272 := Ne_.mk (IsS64.ne_blk hi (bb_ BK272.out hb2) (by decide)); have NB272_277 := Ne_.mk (Ne.symm (IsS64.ne_blk hi (bb_ BK272.out hb2) (by decide))); replace BK272 := Aside0.mk (bb_ BK272.out hb2); have NB277_273 := Ne_.mk (IsS64.ne_blk hi (bb_ BK273.out hb2) (by decide)); have NB273_277 := Ne_.mk (Ne.symm (IsS64.ne_blk hi (bb_ BK273.out hb2) (by decide))); replace BK273 := Aside0.mk (bb_ BK273.out hb2); (try clear hb); (try clear hb2); (try clear hk); (try clear hi)) | ((with_reducible refine gate_callee (f := 23) rfl ?_); refine gl_ (some 9) Tryd.func23 #[.pointer (some ⟨g277, 0, none⟩)] ?_; (with_reducible refine (spec_l13Any.calls g277 t274 t275 t276 t278 t279 t280 t281 t282 t283 t286 t287 w _ ?side1 ?side2 A3.out).mono ?_); (case side1 => exact IsS64.pk_ HI277.out); (case side2 => exact hs_ HB.out); rintro e w10 ⟨v284, rfl, ho0, hi, hb, hk⟩; refine ⟨_, rfl, ?_⟩; replace BK272 := kb_ hk BK272; replace BK273 := kb_ hk BK273; have HO285 := Aside0.mk (Kd.R_lower ho0 (below_size (hs_ HB.out))); replace HB := Aside0.mk (hb); replace HI277 := Aside0.mk (hi); (try clear hb); (try clear hb2); (try clear hk); (try clear hi); (try clear ho0)) | (((with_reducible refine gd_ 5 rfl ?_); refine bv_ 5 #[.int .i64 0, .int .i64 0, .int .i64 0, .int .i64 0, .int .i64 0, .slice none 0 0] 26 ?_; intro gb288 hg w11 hbox hb; replace HO285 := rb_ HO285 hb; have BK288 := Aside0.mk (hbox); have GW288 := Ge_.mk ((gw_ hg (hs_ HB.out))); replace HB := st_ HB hb; have GE288 := Ge_.mk GW288.out; have NB272_288 := nk_ BK272 hg; replace BK272 := bk2_ BK272 hb; have NB288_272 := ns_ NB272_288; have NB273_288 := nk_ BK273 hg; replace BK273 := bk2_ BK273 hb; have NB288_273 := ns_ NB273_288; have NB277_288 := Ne_.mk ((by rw [hg]; exact Nat.ne_of_lt (IsS64.lt (show IsS64 w _ g277 t274 t286 t287 from IsS64.pk_ HI277.out)) : g277 ≠ gb288)); replace HI277 := IsS64.bk_ HI277 hb; have NB288_277 := ns_ NB277_288; clear hb hbox hg; have hnb12 := NB288_272.out; have hnc12 := NB272_288.out; have hnb13 := NB288_273.out; have hnc13 := NB273_288.out; have hnb14 := NB288_277.out; have hnc14 := NB277_288.out; obtain ⟨z15_0, z15_1, z15_2, z15_3, z15_4, z15_5, y15_0, y15_1, y15_2, y15_3, y15_4, y15_5⟩ := bc6_ BK288.out; obtain ⟨Ao16, co16, eo16⟩ := Kd.R_slice HO285.out; subst eo16); refine Aside0.out ?_))
 have H := AHz_.out
 clear AHz_
 by_cases c5 : t289 = true
 ·
  subst c5
  rw [if_pos rfl] at H
  replace H := Option.bind_eq_some_iff.mp H
  obtain ⟨⟨t292, t293, t294, t295, t296, t297⟩, A60, H⟩ := H
  have A6 := Aside0.mk A60
  clear A60
  simp only [Option.some.injEq, Prod.mk.injEq] at H
  obtain ⟨rfl, rfl, rfl, rfl, rfl, rfl, rfl, rfl, rfl, rfl, rfl, rfl⟩ := H
  refine ⟨?_⟩
  try go_wp2_with (first | ((with_reducible refine gate_callee (f := 24) rfl ?_); refine gl_ (some 11) Tryd.func24 #[.pointer (some ⟨g277, 0, none⟩), .int .i64 2] ?_; (with_reducible refine (spec_l1Once.calls g277 t274 t286 t287 2 true t290 t291 w _ ?side1 ?side2 A4.out).mono ?_); (case side1 => exact IsS64.pk_ HI277.out); (case side2 => exact hs_ HB.out); rintro e w17 ⟨rfl, hi, hb, hk⟩; refine ⟨_, rfl, ?_⟩; replace BK272 := kc_ hk BK272 #[.int .i64 0, .int .i64 0, .int .i64 0, .int .i64 0, .int .i64 0, .slice none 0 0]; replace BK273 := kc_ hk BK273 #[.int .i64 0, .int .i64 0, .int .i64 0, .int .i64 0, .int .i64 0, .slice none 0 0]; replace HO285 := Aside0.mk (Kd.R_mono (Kd.R_keep (IsS64.apart (show IsS64 w _ g277 t274 t286 t287 from IsS64.pk_ HI277.out) (by (with_reducible repeat (first | apply Kd.R_alloc | apply Kd.R_drewN | apply Kd.R_drew)); exact (Kd.R_mono (rf_ gb288 (Kd.R_types HO285.out BK288.out (by decide)) (fun _ hk => hk.2)) (fun _ h_ => h_.1))) (by decide)) hk (fun _ h => h.2)) (fun _ h => h.1)); replace BK288 := kc_ hk BK288 #[.int .i64 t278, .int .i64 t279, .int .i64 t280, .int .i64 t281, .int .i64 t282, .slice Ao16 t283.length co16]; replace HB := Aside0.mk (hb); replace HI277 := Aside0.mk (hi); (try clear hb); (try clear hb2); (try clear hk); (try clear hi)))
  replace HO285 := Aside0.mk (Kd.R_drew HO285.out)
  replace BK272 := Aside0.mk (blk_drew BK272.out)
  replace BK273 := Aside0.mk (blk_drew BK273.out)
  replace BK288 := Aside0.mk (blk_drew BK288.out)
  replace HI277 := Aside0.mk (IsS64.drew HI277.out)
  replace HB := Aside0.mk (bd_ HB.out)
  refine start_ (n := 5) (S := fun w' => w'.cell? ⟨gb288, 0, none⟩ = some (.int .i64 t278) ∧ w'.cell? ⟨gb288, 1, none⟩ = some (.int .i64 t279) ∧ w'.cell? ⟨gb288, 2, none⟩ = some (.int .i64 t280) ∧ w'.cell? ⟨gb288, 3, none⟩ = some (.int .i64 t281) ∧ w'.cell? ⟨gb288, 4, none⟩ = some (.int .i64 t282) ∧ w'.cell? ⟨gb288, 5, none⟩ = some (.slice Ao16 t283.length co16)) (ds := []) #[f_,f_,f_,f_,f_] (by kernel_rfl) rfl rfl ⟨bx_ BK288.out 0, bx_ BK288.out 1, bx_ BK288.out 2, bx_ BK288.out 3, bx_ BK288.out 4, bx_ BK288.out 5⟩ (fun hHeld => ?_)
  generalize w17.drew = w18 at HO285 BK272 BK273 BK288 HI277 HB hHeld ⊢
  refine take_ (i := 0) (N := some 12) (v := ?_) (a' := ?_) #[t_,f_,f_,f_,f_] rfl rfl (by kernel_rfl) (fun _ _ _ h => h) (Or.inl ⟨by rfl, ?_⟩) hHeld ?_ ?_
  rotate_left
  ·
   rintro w' ⟨s0, s1, s2, s3, s4, s5⟩
   go_simp
   with_reducible rfl
  rotate_left
  ·
   simp only [fr_]
   rfl
  refine take_ (i := 1) (N := some 13) (v := ?_) (a' := ?_) #[t_,t_,f_,f_,f_] rfl rfl (by kernel_rfl) (fun _ _ _ h => h) (Or.inl ⟨by rfl, ?_⟩) hHeld ?_ ?_
  rotate_left
  ·
   rintro w' ⟨s0, s1, s2, s3, s4, s5⟩
   go_simp
   with_reducible rfl
  rotate_left
  ·
   simp only [fr_]
   rfl
  refine one_ (i := 2) (N := some 14) #[t_,t_,t_,f_,f_] rfl rfl (by kernel_rfl) (by decide) (fun K hK => ?_)
  refine gs_ Tryd.func25 #[.agg #[.int .i64 t278, .int .i64 t279, .int .i64 t280, .int .i64 t281, .int .i64 t282, .slice Ao16 t283.length co16]] ?_
  with_reducible refine (spec_l13Copy.calls t278 t279 t280 t281 t282 _ _ t283 t292 t293 t294 t295 t296 t297 _ ?side1 ?side2 A6.out).mono ?_
  (case side1 => exact cp_ ((Kd.R_reads' HO285.out).2.2))
  (case side2 => exact (Kd.R_reads' HO285.out).2.1)
  rintro e w19 ⟨v298, rfl, ho0, hb⟩
  refine ⟨_, rfl, ?_⟩
  have HO299 := Aside0.mk (Kd.R_lower (Kd.R_new' ho0 (Kd.R_lt (rp_ HO285.out))) (below_size (hs_ HB.out)))
  replace HO285 := Aside0.mk (Kd.R_elder' (rp_ HO285.out) (Kd.R_base ho0) hb)
  replace BK272 := bk2_ BK272 hb
  replace BK273 := bk2_ BK273 hb
  replace HI277 := IsS64.bk_ HI277 hb
  replace BK288 := bk2_ BK288 hb
  replace HB := st_ HB hb
  (try clear hb)
  (try clear hb2)
  (try clear hk)
  (try clear hi)
  (try clear ho0)
  obtain ⟨Ao31, co31, eo31⟩ := Kd.R_slice HO299.out
  (first | subst eo31 | (obtain ⟨rfl, rfl⟩ := si_ eo31))
  refine hK.out _ _ (e6_ BK288.out) (fun hHeld => ?_)
  clear hK K
  refine norm_ (a' := ?_) ?_ ?_
  rotate_left
  ·
   show Act.put _ (some 14) _ = _
   simp only [fr_]
   rfl
  refine one_ (i := 3) (N := none) #[t_,t_,t_,t_,f_] rfl rfl (by kernel_rfl) (by decide) (fun K hK => ?_)
  have hs20 : w19.cell? ⟨gb272, 0, none⟩ = some (.int .i64 0) := bx_ BK272.out 0
  have hfs20 := blk_frozen BK272.out 0
  have hns20_1 := NB273_272.out
  have hns20_2 := NB288_272.out
  have hms20_1 := NB272_273.out
  have hms20_2 := NB272_288.out
  have hs21 : w19.cell? ⟨gb272, 1, none⟩ = some (.int .i64 0) := bx_ BK272.out 1
  have hfs21 := blk_frozen BK272.out 1
  have hns21_1 := NB273_272.out
  have hns21_2 := NB288_272.out
  have hms21_1 := NB272_273.out
  have hms21_2 := NB272_288.out
  have hs22 : w19.cell? ⟨gb272, 2, none⟩ = some (.int .i64 0) := bx_ BK272.out 2
  have hfs22 := blk_frozen BK272.out 2
  have hns22_1 := NB273_272.out
  have hns22_2 := NB288_272.out
  have hms22_1 := NB272_273.out
  have hms22_2 := NB272_288.out
  have hs23 : w19.cell? ⟨gb272, 3, none⟩ = some (.int .i64 0) := bx_ BK272.out 3
  have hfs23 := blk_frozen BK272.out 3
  have hns23_1 := NB273_272.out
  have hns23_2 := NB288_272.out
  have hms23_1 := NB272_273.out
  have hms23_2 := NB272_288.out
  have hs24 : w19.cell? ⟨gb272, 4, none⟩ = some (.int .i64 0) := bx_ BK272.out 4
  have hfs24 := blk_frozen BK272.out 4
  have hns24_1 := NB273_272.out
  have hns24_2 := NB288_272.out
  have hms24_1 := NB272_273.out
  have hms24_2 := NB272_288.out
  have hs25 : w19.cell? ⟨gb272, 5, none⟩ = some (.slice none 0 0) := bx_ BK272.out 5
  have hfs25 := blk_frozen BK272.out 5
  have hns25_1 := NB273_272.out
  have hns25_2 := NB288_272.out
  have hms25_1 := NB272_273.out
  have hms25_2 := NB272_288.out
  refine skip_ (w1 := ?_) (by rfl) rfl ?_ ?_
  rotate_left
  ·
   go_simp
   rfl
  refine hK.out _ _ ⟨(cg_ (hHeld.1)), (cg_ (hHeld.2.1)), (cg_ (hHeld.2.2.1)), (cg_ (hHeld.2.2.2.1)), (cg_ (hHeld.2.2.2.2.1)), (cg_ (hHeld.2.2.2.2.2))⟩ (fun hHeld => ?_)
  clear hK K
  refine one_ (i := 4) (N := none) #[t_,t_,t_,t_,t_] rfl rfl (by kernel_rfl) (by decide) (fun K hK => ?_)
  have hs26 : w19.cell? ⟨gb273, 0, none⟩ = some (.int .i64 0) := bx_ BK273.out 0
  have hfs26 := blk_frozen BK273.out 0
  have hns26_0 := NB272_273.out
  have hns26_2 := NB288_273.out
  have hms26_0 := NB273_272.out
  have hms26_2 := NB273_288.out
  have hs27 : w19.cell? ⟨gb273, 1, none⟩ = some (.int .i64 0) := bx_ BK273.out 1
  have hfs27 := blk_frozen BK273.out 1
  have hns27_0 := NB272_273.out
  have hns27_2 := NB288_273.out
  have hms27_0 := NB273_272.out
  have hms27_2 := NB273_288.out
  have hs28 : w19.cell? ⟨gb273, 2, none⟩ = some (.int .i64 0) := bx_ BK273.out 2
  have hfs28 := blk_frozen BK273.out 2
  have hns28_0 := NB272_273.out
  have hns28_2 := NB288_273.out
  have hms28_0 := NB273_272.out
  have hms28_2 := NB273_288.out
  have hs29 : w19.cell? ⟨gb273, 3, none⟩ = some (.int .i64 0) := bx_ BK273.out 3
  have hfs29 := blk_frozen BK273.out 3
  have hns29_0 := NB272_273.out
  have hns29_2 := NB288_273.out
  have hms29_0 := NB273_272.out
  have hms29_2 := NB273_288.out
  have hs30 : w19.cell? ⟨gb273, 4, none⟩ = some (.int .i64 0) := bx_ BK273.out 4
  have hfs30 := blk_frozen BK273.out 4
  have hns30_0 := NB272_273.out
  have hns30_2 := NB288_273.out
  have hms30_0 := NB273_272.out
  have hms30_2 := NB273_288.out
  have hs32 : w19.cell? ⟨gb273, 5, none⟩ = some (.slice none 0 0) := bx_ BK273.out 5
  have hfs32 := blk_frozen BK273.out 5
  have hns32_0 := NB272_273.out
  have hns32_2 := NB288_273.out
  have hms32_0 := NB273_272.out
  have hms32_2 := NB273_288.out
  refine skip_ (w1 := ?_) (by rfl) rfl ?_ ?_
  rotate_left
  ·
   go_simp
   rfl
  refine hK.out _ _ ⟨(cg_ (hHeld.1)), (cg_ (hHeld.2.1)), (cg_ (hHeld.2.2.1)), (cg_ (hHeld.2.2.2.1)), (cg_ (hHeld.2.2.2.2.1)), (cg_ (hHeld.2.2.2.2.2))⟩ (fun hHeld => ?_)
  clear hK K
  refine done_ (by kernel_rfl) ?_
  try go_wp2
  refine bodyPost_ret (results_cc rfl _ _ gb272 gb273 26 26 #[.int .i64 t278, .int .i64 t279, .int .i64 t280, .int .i64 t281, .int .i64 t282, .slice Ao16 t283.length co16] #[.int .i64 t292, .int .i64 t293, .int .i64 t294, .int .i64 t295, .int .i64 t296, .slice Ao31 t297.length co31] (0, 0) (0, 0) _ _ rfl (bp_ BK272.out) Tryd.underlying26 rfl (by kernel_rfl) rfl (bp_ BK273.out) Tryd.underlying26 rfl (by kernel_rfl)) rfl ?_
  exact ⟨_, _, by first | rfl | (simp [errW_none, errW_some] <;> rfl) | (simp [*, errW_none, errW_some] <;> rfl), by (with_reducible repeat (first | apply Kd.R_alloc | apply Kd.R_drewN | apply Kd.R_drew)); exact Kd.R_mono (rf_ gb273 (Kd.R_far (p := ⟨gb272, 5, none⟩) (Kd.R_far (p := ⟨gb272, 4, none⟩) (Kd.R_far (p := ⟨gb272, 3, none⟩) (Kd.R_far (p := ⟨gb272, 2, none⟩) (Kd.R_far (p := ⟨gb272, 1, none⟩) (Kd.R_far (p := ⟨gb272, 0, none⟩) (Kd.R_types (Kd.R_types HO285.out BK272.out (by decide)) BK273.out (by decide)) (fun _ hk => hk.1.2) (.int .i64 t278)) (fun _ hk => hk.1.2) (.int .i64 t279)) (fun _ hk => hk.1.2) (.int .i64 t280)) (fun _ hk => hk.1.2) (.int .i64 t281)) (fun _ hk => hk.1.2) (.int .i64 t282)) (fun _ hk => hk.1.2) (.slice Ao16 t283.length co16)) (fun _ hk => hk.2)) (fun _ hk => hk.1.1.2), by (with_reducible repeat (first | apply Kd.R_alloc | apply Kd.R_drewN | apply Kd.R_drew)); exact Kd.R_mono (rf_ gb273 (Kd.R_far (p := ⟨gb272, 5, none⟩) (Kd.R_far (p := ⟨gb272, 4, none⟩) (Kd.R_far (p := ⟨gb272, 3, none⟩) (Kd.R_far (p := ⟨gb272, 2, none⟩) (Kd.R_far (p := ⟨gb272, 1, none⟩) (Kd.R_far (p := ⟨gb272, 0, none⟩) (Kd.R_types (Kd.R_types HO299.out BK272.out (by decide)) BK273.out (by decide)) (fun _ hk => hk.1.2) (.int .i64 t278)) (fun _ hk => hk.1.2) (.int .i64 t279)) (fun _ hk => hk.1.2) (.int .i64 t280)) (fun _ hk => hk.1.2) (.int .i64 t281)) (fun _ hk => hk.1.2) (.int .i64 t282)) (fun _ hk => hk.1.2) (.slice Ao16 t283.length co16)) (fun _ hk => hk.2)) (fun _ hk => hk.1.1.2), by exact hs_ HB.out⟩
 replace c5 := Bool.eq_false_iff.mpr c5
 subst c5
 rw [if_neg (show ¬ (false = true) by decide)] at H
 replace H := Option.bind_eq_some_iff.mp H
 obtain ⟨⟨t300, t301, t302, t303, t304, t305, t308, t309⟩, A330, H⟩ := H
 have A33 := Aside0.mk A330
 clear A330
 simp only [Option.some.injEq, Prod.mk.injEq] at H
 obtain ⟨rfl, rfl, rfl, rfl, rfl, rfl, rfl, rfl, rfl, rfl, rfl, rfl⟩ := H
 refine ⟨?_⟩
 try go_wp2_with (first | ((with_reducible refine gate_callee (f := 24) rfl ?_); refine gl_ (some 11) Tryd.func24 #[.pointer (some ⟨g277, 0, none⟩), .int .i64 2] ?_; (with_reducible refine (spec_l1Once.calls g277 t274 t286 t287 2 false t290 t291 w _ ?side1 ?side2 A4.out).mono ?_); (case side1 => exact IsS64.pk_ HI277.out); (case side2 => exact hs_ HB.out); rintro e w44 ⟨rfl, hi, hb, hk⟩; refine ⟨_, rfl, ?_⟩; replace BK272 := kc_ hk BK272 #[.int .i64 0, .int .i64 0, .int .i64 0, .int .i64 0, .int .i64 0, .slice none 0 0]; replace BK273 := kc_ hk BK273 #[.int .i64 0, .int .i64 0, .int .i64 0, .int .i64 0, .int .i64 0, .slice none 0 0]; replace HO285 := Aside0.mk (Kd.R_mono (Kd.R_keep (IsS64.apart (show IsS64 w _ g277 t274 t286 t287 from IsS64.pk_ HI277.out) (by (with_reducible repeat (first | apply Kd.R_alloc | apply Kd.R_drewN | apply Kd.R_drew)); exact (Kd.R_mono (rf_ gb288 (Kd.R_types HO285.out BK288.out (by decide)) (fun _ hk => hk.2)) (fun _ h_ => h_.1))) (by decide)) hk (fun _ h => h.2)) (fun _ h => h.1)); replace BK288 := kc_ hk BK288 #[.int .i64 t278, .int .i64 t279, .int .i64 t280, .int .i64 t281, .int .i64 t282, .slice Ao16 t283.length co16]; replace HB := Aside0.mk (hb); replace HI277 := Aside0.mk (hi); (try clear hb); (try clear hb2); (try clear hk); (try clear hi)))
 replace HO285 := Aside0.mk (Kd.R_drew HO285.out)
 replace BK272 := Aside0.mk (blk_drew BK272.out)
 replace BK273 := Aside0.mk (blk_drew BK273.out)
 replace BK288 := Aside0.mk (blk_drew BK288.out)
 replace HI277 := Aside0.mk (IsS64.drew HI277.out)
 replace HB := Aside0.mk (bd_ HB.out)
 refine start_ (n := 5) (S := fun w' => w'.cell? ⟨gb288, 0, none⟩ = some (.int .i64 t278) ∧ w'.cell? ⟨gb288, 1, none⟩ = some (.int .i64 t279) ∧ w'.cell? ⟨gb288, 2, none⟩ = some (.int .i64 t280) ∧ w'.cell? ⟨gb288, 3, none⟩ = some (.int .i64 t281) ∧ w'.cell? ⟨gb288, 4, none⟩ = some (.int .i64 t282) ∧ w'.cell? ⟨gb288, 5, none⟩ = some (.slice Ao16 t283.length co16)) (ds := []) #[f_,f_,f_,f_,f_] (by kernel_rfl) rfl rfl ⟨bx_ BK288.out 0, bx_ BK288.out 1, bx_ BK288.out 2, bx_ BK288.out 3, bx_ BK288.out 4, bx_ BK288.out 5⟩ (fun hHeld => ?_)
 generalize w44.drew = w45 at HO285 BK272 BK273 BK288 HI277 HB hHeld ⊢
 refine pure_ (i := 1) (N := some 16) (v := ?_) (a' := ?_) #[f_,t_,f_,f_,f_] rfl rfl (by kernel_rfl) (fun _ _ _ h => h) (Or.inl ⟨by rfl, ?_⟩) ?_ ?_
 rotate_left
 ·
  intro w'
  go_simp
  with_reducible rfl
 rotate_left
 ·
  simp only [fr_]
  rfl
 refine take_ (i := 0) (N := some 15) (v := ?_) (a' := ?_) #[t_,t_,f_,f_,f_] rfl rfl (by kernel_rfl) (fun _ _ _ h => h) (Or.inl ⟨by rfl, ?_⟩) hHeld ?_ ?_
 rotate_left
 ·
  rintro w' ⟨s0, s1, s2, s3, s4, s5⟩
  go_simp
  with_reducible rfl
 rotate_left
 ·
  simp only [fr_]
  rfl
 refine one_ (i := 2) (N := some 17) #[t_,t_,t_,f_,f_] rfl rfl (by kernel_rfl) (by decide) (fun K hK => ?_)
 refine gs_ Tryd.func23 #[.pointer (some ⟨g277, 0, none⟩)] ?_
 with_reducible refine (spec_l13Any.calls g277 t274 t290 t291 t300 t301 t302 t303 t304 t305 t308 t309 w _ ?side1 ?side2 A33.out).mono ?_
 (case side1 => exact IsS64.pk_ HI277.out)
 (case side2 => exact hs_ HB.out)
 rintro e w46 ⟨v306, rfl, ho0, hi, hb, hk⟩
 refine ⟨_, rfl, ?_⟩
 replace BK272 := kb_ hk BK272
 replace BK273 := kb_ hk BK273
 replace BK288 := kb_ hk BK288
 have HO307 := Aside0.mk (Kd.R_lower (Kd.R_new' ho0 (Kd.R_lt (rp_ HO285.out))) (below_size (hs_ HB.out)))
 replace HO285 := Aside0.mk (Kd.R_mono (Kd.R_told (Kd.R_oldK (IsS64.apart (show IsS64 w _ g277 t274 t290 t291 from IsS64.pk_ HI277.out) (rp_ HO285.out) (by decide)) hk) (Kd.R_base ho0)) (fun _ h_ => h_.1))
 replace HB := Aside0.mk (hb)
 replace HI277 := Aside0.mk (hi)
 (try clear hb)
 (try clear hb2)
 (try clear hk)
 (try clear hi)
 (try clear ho0)
 obtain ⟨Ao58, co58, eo58⟩ := Kd.R_slice HO307.out
 (first | subst eo58 | (obtain ⟨rfl, rfl⟩ := si_ eo58))
 refine hK.out _ _ (e6_ BK288.out) (fun hHeld => ?_)
 clear hK K
 refine norm_ (a' := ?_) ?_ ?_
 rotate_left
 ·
  show Act.put _ (some 17) _ = _
  simp only [fr_]
  rfl
 refine one_ (i := 3) (N := none) #[t_,t_,t_,t_,f_] rfl rfl (by kernel_rfl) (by decide) (fun K hK => ?_)
 have hs47 : w46.cell? ⟨gb272, 0, none⟩ = some (.int .i64 0) := bx_ BK272.out 0
 have hfs47 := blk_frozen BK272.out 0
 have hns47_1 := NB273_272.out
 have hns47_2 := NB288_272.out
 have hms47_1 := NB272_273.out
 have hms47_2 := NB272_288.out
 have hs48 : w46.cell? ⟨gb272, 1, none⟩ = some (.int .i64 0) := bx_ BK272.out 1
 have hfs48 := blk_frozen BK272.out 1
 have hns48_1 := NB273_272.out
 have hns48_2 := NB288_272.out
 have hms48_1 := NB272_273.out
 have hms48_2 := NB272_288.out
 have hs49 : w46.cell? ⟨gb272, 2, none⟩ = some (.int .i64 0) := bx_ BK272.out 2
 have hfs49 := blk_frozen BK272.out 2
 have hns49_1 := NB273_272.out
 have hns49_2 := NB288_272.out
 have hms49_1 := NB272_273.out
 have hms49_2 := NB272_288.out
 have hs50 : w46.cell? ⟨gb272, 3, none⟩ = some (.int .i64 0) := bx_ BK272.out 3
 have hfs50 := blk_frozen BK272.out 3
 have hns50_1 := NB273_272.out
 have hns50_2 := NB288_272.out
 have hms50_1 := NB272_273.out
 have hms50_2 := NB272_288.out
 have hs51 : w46.cell? ⟨gb272, 4, none⟩ = some (.int .i64 0) := bx_ BK272.out 4
 have hfs51 := blk_frozen BK272.out 4
 have hns51_1 := NB273_272.out
 have hns51_2 := NB288_272.out
 have hms51_1 := NB272_273.out
 have hms51_2 := NB272_288.out
 have hs52 : w46.cell? ⟨gb272, 5, none⟩ = some (.slice none 0 0) := bx_ BK272.out 5
 have hfs52 := blk_frozen BK272.out 5
 have hns52_1 := NB273_272.out
 have hns52_2 := NB288_272.out
 have hms52_1 := NB272_273.out
 have hms52_2 := NB272_288.out
 refine skip_ (w1 := ?_) (by rfl) rfl ?_ ?_
 rotate_left
 ·
  go_simp
  rfl
 refine hK.out _ _ ⟨(cg_ (hHeld.1)), (cg_ (hHeld.2.1)), (cg_ (hHeld.2.2.1)), (cg_ (hHeld.2.2.2.1)), (cg_ (hHeld.2.2.2.2.1)), (cg_ (hHeld.2.2.2.2.2))⟩ (fun hHeld => ?_)
 clear hK K
 refine one_ (i := 4) (N := none) #[t_,t_,t_,t_,t_] rfl rfl (by kernel_rfl) (by decide) (fun K hK => ?_)
 have hs53 : w46.cell? ⟨gb273, 0, none⟩ = some (.int .i64 0) := bx_ BK273.out 0
 have hfs53 := blk_frozen BK273.out 0
 have hns53_0 := NB272_273.out
 have hns53_2 := NB288_273.out
 have hms53_0 := NB273_272.out
 have hms53_2 := NB273_288.out
 have hs54 : w46.cell? ⟨gb273, 1, none⟩ = some (.int .i64 0) := bx_ BK273.out 1
 have hfs54 := blk_frozen BK273.out 1
 have hns54_0 := NB272_273.out
 have hns54_2 := NB288_273.out
 have hms54_0 := NB273_272.out
 have hms54_2 := NB273_288.out
 have hs55 : w46.cell? ⟨gb273, 2, none⟩ = some (.int .i64 0) := bx_ BK273.out 2
 have hfs55 := blk_frozen BK273.out 2
 have hns55_0 := NB272_273.out
 have hns55_2 := NB288_273.out
 have hms55_0 := NB273_272.out
 have hms55_2 := NB273_288.out
 have hs56 : w46.cell? ⟨gb273, 3, none⟩ = some (.int .i64 0) := bx_ BK273.out 3
 have hfs56 := blk_frozen BK273.out 3
 have hns56_0 := NB272_273.out
 have hns56_2 := NB288_273.out
 have hms56_0 := NB273_272.out
 have hms56_2 := NB273_288.out
 have hs57 : w46.cell? ⟨gb273, 4, none⟩ = some (.int .i64 0) := bx_ BK273.out 4
 have hfs57 := blk_frozen BK273.out 4
 have hns57_0 := NB272_273.out
 have hns57_2 := NB288_273.out
 have hms57_0 := NB273_272.out
 have hms57_2 := NB273_288.out
 have hs59 : w46.cell? ⟨gb273, 5, none⟩ = some (.slice none 0 0) := bx_ BK273.out 5
 have hfs59 := blk_frozen BK273.out 5
 have hns59_0 := NB272_273.out
 have hns59_2 := NB288_273.out
 have hms59_0 := NB273_272.out
 have hms59_2 := NB273_288.out
 refine skip_ (w1 := ?_) (by rfl) rfl ?_ ?_
 rotate_left
 ·
  go_simp
  rfl
 refine hK.out _ _ ⟨(cg_ (hHeld.1)), (cg_ (hHeld.2.1)), (cg_ (hHeld.2.2.1)), (cg_ (hHeld.2.2.2.1)), (cg_ (hHeld.2.2.2.2.1)), (cg_ (hHeld.2.2.2.2.2))⟩ (fun hHeld => ?_)
 clear hK K
 refine done_ (by kernel_rfl) ?_
 try go_wp2
 refine bodyPost_ret (results_cc rfl _ _ gb272 gb273 26 26 #[.int .i64 t278, .int .i64 t279, .int .i64 t280, .int .i64 t281, .int .i64 t282, .slice Ao16 t283.length co16] #[.int .i64 t300, .int .i64 t301, .int .i64 t302, .int .i64 t303, .int .i64 t304, .slice Ao58 t305.length co58] (0, 0) (0, 0) _ _ rfl (bp_ BK272.out) Tryd.underlying26 rfl (by kernel_rfl) rfl (bp_ BK273.out) Tryd.underlying26 rfl (by kernel_rfl)) rfl ?_
 exact ⟨_, _, by first | rfl | (simp [errW_none, errW_some] <;> rfl) | (simp [*, errW_none, errW_some] <;> rfl), by (with_reducible repeat (first | apply Kd.R_alloc | apply Kd.R_drewN | apply Kd.R_drew)); exact Kd.R_mono (rf_ gb273 (Kd.R_far (p := ⟨gb272, 5, none⟩) (Kd.R_far (p := ⟨gb272, 4, none⟩) (Kd.R_far (p := ⟨gb272, 3, none⟩) (Kd.R_far (p := ⟨gb272, 2, none⟩) (Kd.R_far (p := ⟨gb272, 1, none⟩) (Kd.R_far (p := ⟨gb272, 0, none⟩) (Kd.R_types (Kd.R_types HO285.out BK272.out (by decide)) BK273.out (by decide)) (fun _ hk => hk.1.2) (.int .i64 t278)) (fun _ hk => hk.1.2) (.int .i64 t279)) (fun _ hk => hk.1.2) (.int .i64 t280)) (fun _ hk => hk.1.2) (.int .i64 t281)) (fun _ hk => hk.1.2) (.int .i64 t282)) (fun _ hk => hk.1.2) (.slice Ao16 t283.length co16)) (fun _ hk => hk.2)) (fun _ hk => hk.1.1.2), by (with_reducible repeat (first | apply Kd.R_alloc | apply Kd.R_drewN | apply Kd.R_drew)); exact Kd.R_mono (rf_ gb273 (Kd.R_far (p := ⟨gb272, 5, none⟩) (Kd.R_far (p := ⟨gb272, 4, none⟩) (Kd.R_far (p := ⟨gb272, 3, none⟩) (Kd.R_far (p := ⟨gb272, 2, none⟩) (Kd.R_far (p := ⟨gb272, 1, none⟩) (Kd.R_far (p := ⟨gb272, 0, none⟩) (Kd.R_types (Kd.R_types HO307.out BK272.out (by decide)) BK273.out (by decide)) (fun _ hk => hk.1.2) (.int .i64 t278)) (fun _ hk => hk.1.2) (.int .i64 t279)) (fun _ hk => hk.1.2) (.int .i64 t280)) (fun _ hk => hk.1.2) (.int .i64 t281)) (fun _ hk => hk.1.2) (.int .i64 t282)) (fun _ hk => hk.1.2) (.slice Ao16 t283.length co16)) (fun _ hk => hk.2)) (fun _ hk => hk.1.1.2), by exact hs_ HB.out⟩
def spec_DrawConfText.f (k : Nat) (l0 : List Int) : Option (Int × Int × Int × Int × Int × List ByteArray) := (spec_l1New.f k l0).bind fun bt311 => ((spec_l13Any.f bt311.1 bt311.2.1 bt311.2.2).bind fun bt315 => (some (bt315.1, bt315.2.1, bt315.2.2.1, bt315.2.2.2.1, bt315.2.2.2.2.1, bt315.2.2.2.2.2.1)))
theorem spec_DrawConfText.mono : ∀ a0 k, LeO (spec_DrawConfText.f k a0) (spec_DrawConfText.f (k + 1) a0) := by
 intro a0 k
 unfold spec_DrawConfText.f
 repeat' first | (with_reducible first | exact spec_l1New.mono _ _ | exact LeO.refl _ | exact LeO.none _ | refine LeO.ite ?_ ?_ | refine LeO.bind ?_ (fun _ => ?_)) | exact spec_l1New.mono _ _
theorem spec_DrawConfText.calls (k : Nat) (A0 : Option Addr) (c0 : Nat) (l0 : List Int) (r1 : Int) (r2 : Int) (r3 : Int) (r4 : Int) (r5 : Int) (r6 : List ByteArray) (w : World) (hr0 : Kd.C (Kd.int .u8) w A0 l0.length l0) (hc0 : l0.length ≤ c0) (h : spec_DrawConfText.f k l0 = some (r1, r2, r3, r4, r5, r6)) :
  Calls Tryd.prog 7 #[.slice A0 l0.length c0] w fun e w' => ∃ v5_ : Value, e = .returned (.agg #[.int .i64 r1, .int .i64 r2, .int .i64 r3, .int .i64 r4, .int .i64 r5, v5_]) ∧ Kd.R Kd.string 9 w' w.heap.size (fun _ => True) v5_ r6 ∧ Below w.heap.size w w' := by
 have hu26 := Tryd.underlying26
 have HR0 := Aside0.mk hr0
 have HC0 := Aside0.mk hc0
 clear hr0 hc0
 have HB := Aside0.mk (Below.refl w.heap.size w)
 have H : ((spec_l1New.f k l0).bind fun bt311 => ((spec_l13Any.f bt311.1 bt311.2.1 bt311.2.2).bind fun bt315 => (some (bt315.1, bt315.2.1, bt315.2.2.1, bt315.2.2.2.1, bt315.2.2.2.2.1, bt315.2.2.2.2.2.1)))) = some (r1, r2, r3, r4, r5, r6) := h
 clear h
 replace H := Option.bind_eq_some_iff.mp H
 obtain ⟨⟨t311, t312, t313⟩, A20, H⟩ := H
 have A2 := Aside0.mk A20
 clear A20
 replace H := Option.bind_eq_some_iff.mp H
 obtain ⟨⟨t315, t316, t317, t318, t319, t320, t323, t324⟩, A30, H⟩ := H
 have A3 := Aside0.mk A30
 clear A30
 simp only [Option.some.injEq, Prod.mk.injEq] at H
 obtain ⟨rfl, rfl, rfl, rfl, rfl, rfl⟩ := H
 go_enter Tryd.func7, Tryd.ntmps7
 go_wp2_with (first | ((with_reducible refine gd_ 2 rfl ?_); refine bv_ 2 #[.int .i64 0, .int .i64 0, .int .i64 0, .int .i64 0, .int .i64 0, .slice none 0 0] 26 ?_; intro gb310 hg w4 hbox hb; have BK310 := Aside0.mk (hbox); have GW310 := Ge_.mk ((gw_ hg (hs_ HB.out))); replace HB := st_ HB hb; have GE310 := Ge_.mk GW310.out; clear hb hbox hg) | ((with_reducible refine gate_callee (f := 22) rfl ?_); refine gl_ (some 5) Tryd.func22 #[.slice A0 l0.length c0] ?_; (with_reducible refine (spec_l1New.calls k _ _ l0 t311 t312 t313 w _ ?side1 ?side2 ?side3 A2.out).mono ?_); (case side1 => exact hs_ HB.out); (case side2 => exact HR0.out); (case side3 => exact HC0.out); rintro e w5 ⟨g314, rfl, hi, hb, hb2⟩; refine ⟨_, rfl, ?_⟩; replace HB := Aside0.mk (hb); have HI314 := Aside0.mk (hi); have NB314_310 := Ne_.mk (IsS64.ne_blk hi (bb_ BK310.out hb2) (by decide)); have NB310_314 := Ne_.mk (Ne.symm (IsS64.ne_blk hi (bb_ BK310.out hb2) (by decide))); replace BK310 := Aside0.mk (bb_ BK310.out hb2); (try clear hb); (try clear hb2); (try clear hk); (try clear hi)) | ((with_reducible refine gate_callee (f := 23) rfl ?_); refine gl_ (some 7) Tryd.func23 #[.pointer (some ⟨g314, 0, none⟩)] ?_; (with_reducible refine (spec_l13Any.calls g314 t311 t312 t313 t315 t316 t317 t318 t319 t320 t323 t324 w _ ?side1 ?side2 A3.out).mono ?_); (case side1 => exact IsS64.pk_ HI314.out); (case side2 => exact hs_ HB.out); rintro e w6 ⟨v321, rfl, ho0, hi, hb, hk⟩; refine ⟨_, rfl, ?_⟩; replace BK310 := kb_ hk BK310; have HO322 := Aside0.mk (Kd.R_lower ho0 (below_size (hs_ HB.out))); replace HB := Aside0.mk (hb); replace HI314 := Aside0.mk (hi); (try clear hb); (try clear hb2); (try clear hk); (try clear hi); (try clear ho0); have hnb7 := NB310_314.out; have hnc7 := NB314_310.out; obtain ⟨z8_0, z8_1, z8_2, z8_3, z8_4, z8_5, y8_0, y8_1, y8_2, y8_3, y8_4, y8_5⟩ := bc6_ BK310.out; obtain ⟨Ao9, co9, eo9⟩ := Kd.R_slice HO322.out; subst eo9))
 refine bodyPost_ret (results_cell_row rfl _ _ gb310 26 #[.int .i64 t315, .int .i64 t316, .int .i64 t317, .int .i64 t318, .int .i64 t319, .slice Ao9 t320.length co9] (0, 0) _ rfl (bp_ BK310.out) Tryd.underlying26 rfl (by kernel_rfl)) rfl ?_
 exact ⟨_, by first | rfl | (simp [errW_none, errW_some] <;> rfl) | (simp [*, errW_none, errW_some] <;> rfl), by (with_reducible repeat (first | apply Kd.R_alloc | apply Kd.R_drewN | apply Kd.R_drew)); exact Kd.R_mono (rf_ gb310 (Kd.R_types HO322.out BK310.out (by decide)) (fun _ hk => hk.2)) (fun _ hk => trivial), by exact hs_ HB.out⟩
def spec_l2Draw.l0 : Nat → List (S83) → List ByteArray → Int → Int → List Int → Int → Int → Option ((List (S83)) × Int × Int)
 | 0, _, _, _, _, _, _, _ => none
 | k + 1, x3, x11, x12, x13, x1000, x1001, x1002 => if x13 < x12 then (if 0 ≤ x13 then (if x13 < (x11.length : Int) then ((spec_l1Once.f x1000 x1001 x1002 4).bind fun bt338 => (if bt338.1 = true then ((spec_l1Str.f x1000 bt338.2.1 bt338.2.2 (([(⟨#[49]⟩ : ByteArray), (⟨#[50]⟩ : ByteArray)] : List ByteArray))).bind fun bt344 => (if x3.length < 4398046511104 then (spec_l2Draw.l0 k (x3 ++ [(⟨rdOf ByteArray.empty x11 x13, bt344.1⟩ : S83)]) x11 x12 (wrap64 (x13 + 1)) x1000 bt344.2.1 bt344.2.2) else (none))) else (spec_l2Draw.l0 k x3 x11 x12 (wrap64 (x13 + 1)) x1000 bt338.2.1 bt338.2.2))) else (none)) else (none)) else (some (x3, x1001, x1002))
def spec_l2Draw.f (k : Nat) (s0_0 : List Int) (s0_1 : Int) (s0_2 : Int) : Option ((List (S83)) × Int × Int) := (spec_l1Str.f s0_0 s0_1 s0_2 (([(⟨#[97]⟩ : ByteArray), (⟨#[98]⟩ : ByteArray), (⟨#[99]⟩ : ByteArray)] : List ByteArray))).bind fun bt328 => ((some (([(⟨#[104, 111, 115, 116]⟩ : ByteArray), (⟨#[115, 101, 118]⟩ : ByteArray), (⟨#[122, 111, 110, 101]⟩ : ByteArray)] : List ByteArray) : List ByteArray)).bind fun y334 => (spec_l2Draw.l0 k (([(⟨(⟨#[97, 112, 112]⟩ : ByteArray), bt328.1⟩ : S83)] : List (S83))) y334 (y334.length : Int) 0 s0_0 bt328.2.1 bt328.2.2))
theorem spec_l2Draw.mono_l : ∀ k, (∀ y0 y1 y2 y3 y4 y5 y6, LeO (spec_l2Draw.l0 k y0 y1 y2 y3 y4 y5 y6) (spec_l2Draw.l0 (k + 1) y0 y1 y2 y3 y4 y5 y6))
 | 0 => fun _ _ _ _ _ _ _ r h => by simp [spec_l2Draw.l0] at h
 | k + 1 => by
  have ih0 := spec_l2Draw.mono_l k
  intro y0 y1 y2 y3 y4 y5 y6
  unfold spec_l2Draw.l0
  repeat' first
  | (with_reducible exact ih0 _ _ _ _ _ _ _)
  | (with_reducible exact LeO.refl _)
  | (with_reducible exact LeO.none _)
  | (with_reducible refine LeO.ite ?_ ?_)
  | (with_reducible refine LeO.bind ?_ (fun _ => ?_))
  | exact ih0 _ _ _ _ _ _ _
theorem spec_l2Draw.mono : ∀ a0 a1 a2 k, LeO (spec_l2Draw.f k a0 a1 a2) (spec_l2Draw.f (k + 1) a0 a1 a2) := by
 intro a0 a1 a2 k
 have ih0 := spec_l2Draw.mono_l k
 unfold spec_l2Draw.f
 repeat' first | (with_reducible first | exact ih0 _ _ _ _ _ _ _ | exact LeO.refl _ | exact LeO.none _ | refine LeO.ite ?_ ?_ | refine LeO.bind ?_ (fun _ => ?_)) | exact ih0 _ _ _ _ _ _ _
theorem spec_l2Draw.calls (k : Nat) (g : Nat) (s0_0 : List Int) (s0_1 : Int) (s0_2 : Int) (r1 : List (S83)) (r2 : Int) (r3 : Int) (w0 w : World) (hI : IsS64 w0 w g s0_0 s0_1 s0_2) (hB : Below w0.heap.size w0 w) (h : spec_l2Draw.f k s0_0 s0_1 s0_2 = some (r1, r2, r3)) :
  Calls Tryd.prog 66 #[.pointer (some ⟨g, 0, none⟩)] w fun e w' => ∃ v0_ : Value, e = .returned (v0_) ∧ Kd.R k83 83 w' w.heap.size (fun _ => True) v0_ r1 ∧ IsS64 w0 w' g s0_0 r2 r3 ∧ Below w0.heap.size w0 w' ∧ KeepBut w w' g none := by
 have hu83 := Tryd.underlying83
 have HI0 := Aside0.mk hI
 have HK := Aside0.mk (KeepBut.refl w g none)
 have HL := Aside0.mk hB.size
 clear hI
 have HW0 := Aside0.mk hB.size
 have HB := Aside0.mk hB
 clear hB
 have H : ((spec_l1Str.f s0_0 s0_1 s0_2 (([(⟨#[97]⟩ : ByteArray), (⟨#[98]⟩ : ByteArray), (⟨#[99]⟩ : ByteArray)] : List ByteArray))).bind fun bt328 => ((some (([(⟨#[104, 111, 115, 116]⟩ : ByteArray), (⟨#[115, 101, 118]⟩ : ByteArray), (⟨#[122, 111, 110, 101]⟩ : ByteArray)] : List ByteArray) : List ByteArray)).bind fun y334 => (spec_l2Draw.l0 k (([(⟨(⟨#[97, 112, 112]⟩ : ByteArray), bt328.1⟩ : S83)] : List (S83))) y334 (y334.length : Int) 0 s0_0 bt328.2.1 bt328.2.2))) = some (r1, r2, r3) := h
 clear h
 obtain ⟨y325, hy325⟩ : ∃ y_ : List ByteArray, y_ = (([(⟨#[97]⟩ : ByteArray), (⟨#[98]⟩ : ByteArray), (⟨#[99]⟩ : ByteArray)] : List ByteArray)) := ⟨_, rfl⟩
 replace H : ((spec_l1Str.f s0_0 s0_1 s0_2 y325).bind fun bt328 => ((some (([(⟨#[104, 111, 115, 116]⟩ : ByteArray), (⟨#[115, 101, 118]⟩ : ByteArray), (⟨#[122, 111, 110, 101]⟩ : ByteArray)] : List ByteArray) : List ByteArray)).bind fun y334 => (spec_l2Draw.l0 k (([(⟨(⟨#[97, 112, 112]⟩ : ByteArray), bt328.1⟩ : S83)] : List (S83))) y334 (y334.length : Int) 0 s0_0 bt328.2.1 bt328.2.2))) = some (r1, r2, r3) := by first | (rw [hy325]; with_reducible exact H) | (have H2_ := (Option.bind_some _ _).symm.trans H; rw [hy325]; with_reducible exact H2_) | (have H2_ := (Option.bind_some _ _).symm.trans H; with_reducible exact H2_) | with_reducible exact H | (rw [hy325]; exact H) | exact H
 have Ny325 := Aside0.mk hy325
 clear hy325
 replace H := Option.bind_eq_some_iff.mp H
 obtain ⟨⟨t328, t329, t330⟩, A20, H⟩ := H
 have A2 := Aside0.mk A20
 clear A20
 obtain ⟨y331, hy331⟩ : ∃ y_ : List (S83), y_ = (([(⟨(⟨#[97, 112, 112]⟩ : ByteArray), t328⟩ : S83)] : List (S83))) := ⟨_, rfl⟩
 replace H : ((some (([(⟨#[104, 111, 115, 116]⟩ : ByteArray), (⟨#[115, 101, 118]⟩ : ByteArray), (⟨#[122, 111, 110, 101]⟩ : ByteArray)] : List ByteArray) : List ByteArray)).bind fun y334 => (spec_l2Draw.l0 k y331 y334 (y334.length : Int) 0 s0_0 t329 t330)) = some (r1, r2, r3) := by first | (rw [hy331]; with_reducible exact H) | (have H2_ := (Option.bind_some _ _).symm.trans H; rw [hy331]; with_reducible exact H2_) | (have H2_ := (Option.bind_some _ _).symm.trans H; with_reducible exact H2_) | with_reducible exact H | (rw [hy331]; exact H) | exact H
 have Ny331 := Aside0.mk hy331
 clear hy331
 obtain ⟨y334, hy334⟩ : ∃ y_ : List ByteArray, y_ = (([(⟨#[104, 111, 115, 116]⟩ : ByteArray), (⟨#[115, 101, 118]⟩ : ByteArray), (⟨#[122, 111, 110, 101]⟩ : ByteArray)] : List ByteArray)) := ⟨_, rfl⟩
 replace H : (spec_l2Draw.l0 k y331 y334 (y334.length : Int) 0 s0_0 t329 t330) = some (r1, r2, r3) := by first | (rw [hy334]; with_reducible exact H) | (have H2_ := (Option.bind_some _ _).symm.trans H; rw [hy334]; with_reducible exact H2_) | (have H2_ := (Option.bind_some _ _).symm.trans H; with_reducible exact H2_) | with_reducible exact H | (rw [hy334]; exact H) | exact H
 have Ny334 := Aside0.mk hy334
 clear hy334
 have H' := Aside0.mk H
 clear H
 go_enter Tryd.func66, Tryd.ntmps66
 go_wp2_with (first | ((with_reducible refine gd_ 7 rfl ?_); refine Kd.R_lit Kd.string _ 9 ?hg (N := 7) ?hd (xs := ([(⟨#[97]⟩ : ByteArray), (⟨#[98]⟩ : ByteArray), (⟨#[99]⟩ : ByteArray)] : List ByteArray)) (inner := [.string (⟨#[97]⟩ : ByteArray), .string (⟨#[98]⟩ : ByteArray), .string (⟨#[99]⟩ : ByteArray)]) (ok := fun _ => True) (okp := fun _ => True) ?hr ?hp (fun _ hk => hk) trivial (Below.refl _ _) (Nat.le_refl _) (by simp) ?_; (case hd => rfl); (case hg => rfl); (case hr => first | (go_simp; done) | (go_simp; rfl)); (case hp => exact (Reps.one (show Kd.M Kd.string _ _ _ (⟨#[97]⟩ : ByteArray) [.string (⟨#[97]⟩ : ByteArray)] from rfl) (Reps.one (show Kd.M Kd.string _ _ _ (⟨#[98]⟩ : ByteArray) [.string (⟨#[98]⟩ : ByteArray)] from rfl) (Reps.one (show Kd.M Kd.string _ _ _ (⟨#[99]⟩ : ByteArray) [.string (⟨#[99]⟩ : ByteArray)] from rfl) (Reps.none _ _))))); intro v326 w3 ho4 hb hg_ hnew_; clear hg_ hnew_; (first | rw [← Ny325.out] at ho4 | (simp only [Int.reduceToNat] at ho4; rw [← Ny325.out] at ho4)); have HO327 := rl_ ho4 HK; have n1_ := IsS64.bk_ HI0 hb; have n2_ := kt_ HK hb; have n3_ := st_ HB hb; clear HI0 HK HB; have HI0 := n1_; have HK := n2_; have HB := n3_; clear n1_ n2_ n3_; clear hb ho4; obtain ⟨Ao5, co5, eo5⟩ := Kd.R_slice HO327.out; subst eo5) | ((with_reducible refine gate_callee (f := 75) rfl ?_); refine gl_ (some 8) Tryd.func75 #[.pointer (some ⟨g, 0, none⟩), .slice Ao5 y325.length co5] ?_; (with_reducible refine (spec_l1Str.calls g s0_0 s0_1 s0_2 _ _ y325 t328 t329 t330 w0 _ ?side1 ?side2 ?side3 ?side4 ?side5 A2.out).mono ?_); (case side1 => exact IsS64.pk_ HI0.out); (case side2 => exact hs_ HB.out); (case side3 => exact cp_ ((Kd.R_reads' HO327.out).2.2)); (case side4 => exact (Kd.R_reads' HO327.out).2.1); (case side5 => exact far_slice (IsS64.own_ne HI0.out HO327.out (by decide))); rintro e w6 ⟨rfl, hi, hb, hk⟩; refine ⟨_, rfl, ?_⟩; replace HO327 := IsS64.rk_ HI0 HO327 hk; replace HK := kh_ HK hk; replace HB := Aside0.mk (hb); replace HI0 := Aside0.mk (hi); (try clear hb); (try clear hk); (try clear hi)) | ((with_reducible refine gd_ 10 rfl ?_); refine Kd.R_lit k83 _ 83 ?hg (N := 10) ?hd (xs := ([(⟨(⟨#[97, 112, 112]⟩ : ByteArray), t328⟩ : S83)] : List (S83))) (inner := [.string (⟨#[97, 112, 112]⟩ : ByteArray), .string t328]) (ok := fun _ => True) (okp := fun _ => True) ?hr ?hp (fun _ hk => hk) trivial (Below.refl _ _) (Nat.le_refl _) (by simp) ?_; (case hd => rfl); (case hg => rfl); (case hr => first | (go_simp; done) | (go_simp; rfl)); (case hp => exact (Reps.c2 (show Kd.M k83 _ _ _ (⟨(⟨#[97, 112, 112]⟩ : ByteArray), t328⟩ : S83) [.string (⟨#[97, 112, 112]⟩ : ByteArray), .string t328] from (k83_mkM _ _ _ (⟨(⟨#[97, 112, 112]⟩ : ByteArray), t328⟩ : S83) )) (Reps.none _ _))); intro v332 w7 ho8 hb hg_ hnew_; clear hg_ hnew_; (first | rw [← Ny331.out] at ho8 | (simp only [Int.reduceToNat] at ho8; rw [← Ny331.out] at ho8)); replace HO327 := rb_ HO327 hb; have HO333 := rl_ ho8 HK; replace HI0 := IsS64.bk_ HI0 hb; replace HK := kt_ HK hb; replace HB := st_ HB hb; clear hb ho8) | ((with_reducible refine gd_ 11 rfl ?_); refine Kd.R_lit Kd.string _ 9 ?hg (N := 11) ?hd (xs := ([(⟨#[104, 111, 115, 116]⟩ : ByteArray), (⟨#[115, 101, 118]⟩ : ByteArray), (⟨#[122, 111, 110, 101]⟩ : ByteArray)] : List ByteArray)) (inner := [.string (⟨#[104, 111, 115, 116]⟩ : ByteArray), .string (⟨#[115, 101, 118]⟩ : ByteArray), .string (⟨#[122, 111, 110, 101]⟩ : ByteArray)]) (ok := fun _ => True) (okp := fun _ => True) ?hr ?hp (fun _ hk => hk) trivial (Below.refl _ _) (Nat.le_refl _) (by simp) ?_; (case hd => rfl); (case hg => rfl); (case hr => first | (go_simp; done) | (go_simp; rfl)); (case hp => exact (Reps.one (show Kd.M Kd.string _ _ _ (⟨#[104, 111, 115, 116]⟩ : ByteArray) [.string (⟨#[104, 111, 115, 116]⟩ : ByteArray)] from rfl) (Reps.one (show Kd.M Kd.string _ _ _ (⟨#[115, 101, 118]⟩ : ByteArray) [.string (⟨#[115, 101, 118]⟩ : ByteArray)] from rfl) (Reps.one (show Kd.M Kd.string _ _ _ (⟨#[122, 111, 110, 101]⟩ : ByteArray) [.string (⟨#[122, 111, 110, 101]⟩ : ByteArray)] from rfl) (Reps.none _ _))))); intro v335 w9 ho10 hb hg_ hnew_; clear hg_ hnew_; (first | rw [← Ny334.out] at ho10 | (simp only [Int.reduceToNat] at ho10; rw [← Ny334.out] at ho10)); replace HO333 := rb_ HO333 hb; have HO336 := Aside0.mk (Kd.R_lower (Kd.R_new' ho10 (Kd.R_lt (rp_ HO327.out))) (ks_ HK)); replace HO327 := Aside0.mk (Kd.R_elder' (rp_ HO327.out) (Kd.R_base ho10) hb); replace HI0 := IsS64.bk_ HI0 hb; replace HK := kt_ HK hb; replace HB := st_ HB hb; clear hb ho10; obtain ⟨Ao11, co11, eo11⟩ := Kd.R_slice HO336.out; subst eo11))
 go_loopg [3, 13] k (fun kq v3 v13 w' => ∃ (x3_1 : List (S83)) (x13_1 : Int) (x1001_1 : Int) (x1002_1 : Int), v13 = .int .i64 x13_1 ∧ Aside0 (spec_l2Draw.l0 kq x3_1 y334 (y334.length : Int) x13_1 s0_0 x1001_1 x1002_1 = some (r1, r2, r3)) ∧ Aside0 (kq ≤ k) ∧ Aside0 (Kd.R k83 83 w' w.heap.size (fun _ => True) v3 x3_1) ∧ Aside0 (Kd.R Kd.string 9 w' w.heap.size (fun _ => True) (.slice Ao11 y334.length co11) y334) ∧ Aside0 (IsS64 w0 w' g s0_0 x1001_1 x1002_1) ∧ Aside0 (KeepBut w w' g none) ∧ Aside0 (Below w0.heap.size w0 w'))
 case atStart => exact ⟨(y331), (0), (t329), (t330), (by first | rfl | (simp; done) | (simp [*]; done)), H', ⟨Nat.le_refl _⟩, ⟨by (with_reducible repeat (first | apply Kd.R_alloc | apply Kd.R_drewN | apply Kd.R_drew)); exact HO333.out⟩, ⟨by (with_reducible repeat (first | apply Kd.R_alloc | apply Kd.R_drewN | apply Kd.R_drew)); exact Kd.R_mono HO336.out (fun _ hk => trivial)⟩, ⟨IsS64.pk_ HI0.out⟩, ⟨ku_ HK.out⟩, ⟨by exact hs_ HB.out⟩⟩
 case round =>
  clear H'
  try clear c2
  try clear p2
  try clear c6
  try clear c7
  obtain ⟨x3_1, x13_1, x1001_1, x1002_1, rfl, HA, HK1, HO_3, HO_11, HI0, HK, HB⟩ := hrel
  cases gk with
  | zero => exact absurd HA.out (by simp [spec_l2Draw.l0])
  | succ k1 =>
   have H := HA.out
   clear HA
   simp only [spec_l2Draw.l0] at H
   by_cases c12 : x13_1 < (y334.length : Int)
   ·
    rw [if_pos c12] at H
    have c12b0 := decide_eq_true c12
    clear c12
    by_cases c13 : 0 ≤ x13_1
    ·
     rw [if_pos c13] at H
     have c13b0 := decide_eq_true c13
     clear c13
     by_cases c14 : x13_1 < (y334.length : Int)
     ·
      rw [if_pos c14] at H
      have c14b0 := decide_eq_true c14
      clear c14
      replace H := Option.bind_eq_some_iff.mp H
      obtain ⟨⟨t338, t339, t340⟩, A150, H⟩ := H
      have A15 := Aside0.mk A150
      clear A150
      by_cases c16 : t338 = true
      ·
       subst c16
       rw [if_pos rfl] at H
       obtain ⟨y341, hy341⟩ : ∃ y_ : List ByteArray, y_ = (([(⟨#[49]⟩ : ByteArray), (⟨#[50]⟩ : ByteArray)] : List ByteArray)) := ⟨_, rfl⟩
       replace H : ((spec_l1Str.f s0_0 t339 t340 y341).bind fun bt344 => (if x3_1.length < 4398046511104 then (spec_l2Draw.l0 k1 (x3_1 ++ [(⟨rdOf ByteArray.empty y334 x13_1, bt344.1⟩ : S83)]) y334 (y334.length : Int) (wrap64 (x13_1 + 1)) s0_0 bt344.2.1 bt344.2.2) else (none))) = some (r1, r2, r3) := by first | (rw [hy341]; with_reducible exact H) | (have H2_ := (Option.bind_some _ _).symm.trans H; rw [hy341]; with_reducible exact H2_) | (have H2_ := (Option.bind_some _ _).symm.trans H; with_reducible exact H2_) | with_reducible exact H | (rw [hy341]; exact H) | exact H
       have Ny341 := Aside0.mk hy341
       clear hy341
       replace H := Option.bind_eq_some_iff.mp H
       obtain ⟨⟨t344, t345, t346⟩, A170, H⟩ := H
       have A17 := Aside0.mk A170
       clear A170
       by_cases c18 : x3_1.length < 4398046511104
       ·
        rw [if_pos c18] at H
        have LMc18 := Aside0.mk c18
        clear c18
        obtain ⟨y347, hy347⟩ : ∃ y_ : List (S83), y_ = (x3_1 ++ [(⟨rdOf ByteArray.empty y334 x13_1, t344⟩ : S83)]) := ⟨_, rfl⟩
        replace H : (spec_l2Draw.l0 k1 y347 y334 (y334.length : Int) (wrap64 (x13_1 + 1)) s0_0 t345 t346) = some (r1, r2, r3) := by first | (rw [hy347]; with_reducible exact H) | (have H2_ := (Option.bind_some _ _).symm.trans H; rw [hy347]; with_reducible exact H2_) | (have H2_ := (Option.bind_some _ _).symm.trans H; with_reducible exact H2_) | with_reducible exact H | (rw [hy347]; exact H) | exact H
        have Ny347 := Aside0.mk hy347
        clear hy347
        have H' := Aside0.mk H
        clear H
        have p337 : 0 ≤ (x13_1 : Int) := of_decide_eq_true (by with_reducible assumption)
        have q337 : x13_1 < (y334.length : Int) := of_decide_eq_true (by with_reducible assumption)
        obtain ⟨ad337, e337, hx337_0⟩ := Kd.at_string (Kd.R_reads' HO_11.out).2.2 x13_1 p337 q337
        cases e337
        replace p337 := eq_true p337
        replace q337 := eq_true q337
        go_wp2_with (first | ((with_reducible refine gate_callee (f := 24) rfl ?_); refine gl_ (some 18) Tryd.func24 #[.pointer (some ⟨g, 0, none⟩), .int .i64 4] ?_; (with_reducible refine (spec_l1Once.calls g s0_0 x1001_1 x1002_1 4 true t339 t340 w0 _ ?side1 ?side2 A15.out).mono ?_); (case side1 => exact IsS64.pk_ HI0.out); (case side2 => exact hs_ HB.out); rintro e w19 ⟨rfl, hi, hb, hk⟩; refine ⟨_, rfl, ?_⟩; replace HO_3 := IsS64.rk_ HI0 HO_3 hk; replace HO_11 := IsS64.rk_ HI0 HO_11 hk; replace HK := kh_ HK hk; replace HB := Aside0.mk (hb); replace HI0 := Aside0.mk (hi); (try clear hb); (try clear hk); (try clear hi)) | ((with_reducible refine gd_ 22 rfl ?_); refine Kd.R_lit Kd.string _ 9 ?hg (N := 22) ?hd (xs := ([(⟨#[49]⟩ : ByteArray), (⟨#[50]⟩ : ByteArray)] : List ByteArray)) (inner := [.string (⟨#[49]⟩ : ByteArray), .string (⟨#[50]⟩ : ByteArray)]) (ok := fun _ => True) (okp := fun _ => True) ?hr ?hp (fun _ hk => hk) trivial (Below.refl _ _) (Nat.le_refl _) (by simp) ?_; (case hd => rfl); (case hg => rfl); (case hr => first | (go_simp; done) | (go_simp; rfl)); (case hp => exact (Reps.one (show Kd.M Kd.string _ _ _ (⟨#[49]⟩ : ByteArray) [.string (⟨#[49]⟩ : ByteArray)] from rfl) (Reps.one (show Kd.M Kd.string _ _ _ (⟨#[50]⟩ : ByteArray) [.string (⟨#[50]⟩ : ByteArray)] from rfl) (Reps.none _ _)))); intro v342 w20 ho21 hb hg_ hnew_; clear hg_ hnew_; (first | rw [← Ny341.out] at ho21 | (simp only [Int.reduceToNat] at ho21; rw [← Ny341.out] at ho21)); replace HO_3 := rb_ HO_3 hb; have HO343 := Aside0.mk (Kd.R_lower (Kd.R_new' ho21 (Kd.R_lt (rp_ HO_11.out))) (ks_ HK)); replace HO_11 := Aside0.mk (Kd.R_elder' (rp_ HO_11.out) (Kd.R_base ho21) hb); replace HI0 := IsS64.bk_ HI0 hb; replace HK := kt_ HK hb; replace HB := st_ HB hb; clear hb ho21; obtain ⟨Ao22, co22, eo22⟩ := Kd.R_slice HO343.out; subst eo22) | ((with_reducible refine gate_callee (f := 75) rfl ?_); refine gl_ (some 23) Tryd.func75 #[.pointer (some ⟨g, 0, none⟩), .slice Ao22 y341.length co22] ?_; (with_reducible refine (spec_l1Str.calls g s0_0 t339 t340 _ _ y341 t344 t345 t346 w0 _ ?side1 ?side2 ?side3 ?side4 ?side5 A17.out).mono ?_); (case side1 => exact IsS64.pk_ HI0.out); (case side2 => exact hs_ HB.out); (case side3 => exact cp_ ((Kd.R_reads' HO343.out).2.2)); (case side4 => exact (Kd.R_reads' HO343.out).2.1); (case side5 => exact far_slice (IsS64.own_ne HI0.out HO343.out (by decide))); rintro e w23 ⟨rfl, hi, hb, hk⟩; refine ⟨_, rfl, ?_⟩; replace HO_3 := IsS64.rk_ HI0 HO_3 hk; replace HO_11 := IsS64.rk_ HI0 HO_11 hk; replace HO343 := IsS64.rk_ HI0 HO343 hk; replace HK := kh_ HK hk; replace HB := Aside0.mk (hb); replace HI0 := Aside0.mk (hi); (try clear hb); (try clear hk); (try clear hi)) | ((with_reducible refine gate_builtin (b := .append) (xs := #[.tmp 19, .tmp 25]) rfl ?_); at_builtin; refine Kd.R_append k83 w.heap.size rfl (.tmp 19) (.tmp 25) 30 83 (.agg #[(.string ⟨#[]⟩), (.string ⟨#[]⟩)]) 32 rfl Tryd.underlying30 info83 rfl (by decide) (by omega) u3 x3_1 (⟨rdOf ByteArray.empty y334 x13_1, t344⟩ : S83) [.string (rdOf ByteArray.empty y334 x13_1), .string t344] (fun _ => True) (fun _ => False) rfl rfl ?aP (fun _ hk => hk.elim) ?aF ?aO (Below.refl _ _) ?aS ?aL ?_; (case aP => exact k83_mkM _ _ _ (⟨rdOf ByteArray.empty y334 x13_1, t344⟩ : S83)); (case aF => exact (fun _ _ => trivial)); (case aO => exact (rp_ HO_3.out)); (case aS => exact (ks_ HK)); (case aL => have := LMc18.out; omega); intro v348 w24 ho hb hg hat; rw [← Ny347.out] at ho; replace HO_11 := Aside0.mk (Kd.R_over' (rp_ HO_11.out) (Kd.R_typed (rp_ HO_3.out)) (by decide) hg); replace HI0 := Aside0.mk (IsS64.grown (IsS64.pk_ HI0.out) hg (IsS64.own_ne HI0.out HO_3.out (by decide))); replace HO343 := Aside0.mk (Kd.R_over' (rp_ HO343.out) (Kd.R_typed (rp_ HO_3.out)) (by decide) hg); replace HB := Aside0.mk (below_weaken (hs_ HB.out) HL.out hb); replace HK := Aside0.mk (KeepBut.trans (ku_ HK.out) (KeepBut.of_grown hg g) (Kd.R_base2 HO_3.out)); have HO349 := Aside0.mk (ho); clear HO_3; clear ho hb hg hat))
        go_roundg k1
        case measure => have := HK1.out; omega
        case rel => exact ⟨(y347), (wrap64 (x13_1 + 1)), (t345), (t346), (by first | rfl | (simp; done) | (simp [*]; done)), H', ⟨by have := HK1.out; omega⟩, ⟨by (with_reducible repeat (first | apply Kd.R_alloc | apply Kd.R_drewN | apply Kd.R_drew)); exact HO349.out⟩, ⟨by (with_reducible repeat (first | apply Kd.R_alloc | apply Kd.R_drewN | apply Kd.R_drew)); exact Kd.R_mono HO_11.out (fun _ hk => trivial)⟩, ⟨IsS64.pk_ HI0.out⟩, ⟨ku_ HK.out⟩, ⟨by exact hs_ HB.out⟩⟩
       rw [if_neg c18] at H
       exact absurd H (by simp)
      replace c16 := Bool.eq_false_iff.mpr c16
      subst c16
      rw [if_neg (show ¬ (false = true) by decide)] at H
      have H' := Aside0.mk H
      clear H
      have p337 : 0 ≤ (x13_1 : Int) := of_decide_eq_true (by with_reducible assumption)
      have q337 : x13_1 < (y334.length : Int) := of_decide_eq_true (by with_reducible assumption)
      obtain ⟨ad337, e337, hx337_0⟩ := Kd.at_string (Kd.R_reads' HO_11.out).2.2 x13_1 p337 q337
      cases e337
      replace p337 := eq_true p337
      replace q337 := eq_true q337
      go_wp2_with (first | ((with_reducible refine gate_callee (f := 24) rfl ?_); refine gl_ (some 18) Tryd.func24 #[.pointer (some ⟨g, 0, none⟩), .int .i64 4] ?_; (with_reducible refine (spec_l1Once.calls g s0_0 x1001_1 x1002_1 4 false t339 t340 w0 _ ?side1 ?side2 A15.out).mono ?_); (case side1 => exact IsS64.pk_ HI0.out); (case side2 => exact hs_ HB.out); rintro e w25 ⟨rfl, hi, hb, hk⟩; refine ⟨_, rfl, ?_⟩; replace HO_3 := IsS64.rk_ HI0 HO_3 hk; replace HO_11 := IsS64.rk_ HI0 HO_11 hk; replace HK := kh_ HK hk; replace HB := Aside0.mk (hb); replace HI0 := Aside0.mk (hi); (try clear hb); (try clear hk); (try clear hi)))
      go_roundg k1
      case measure => have := HK1.out; omega
      case rel => exact ⟨(x3_1), (wrap64 (x13_1 + 1)), (t339), (t340), (by first | rfl | (simp; done) | (simp [*]; done)), H', ⟨by have := HK1.out; omega⟩, ⟨by (with_reducible repeat (first | apply Kd.R_alloc | apply Kd.R_drewN | apply Kd.R_drew)); exact HO_3.out⟩, ⟨by (with_reducible repeat (first | apply Kd.R_alloc | apply Kd.R_drewN | apply Kd.R_drew)); exact HO_11.out⟩, ⟨IsS64.pk_ HI0.out⟩, ⟨ku_ HK.out⟩, ⟨by exact hs_ HB.out⟩⟩
     rw [if_neg c14] at H
     exact absurd H (by simp)
    rw [if_neg c13] at H
    exact absurd H (by simp)
   rw [if_neg c12] at H
   have c12b0 : decide (x13_1 < (y334.length : Int)) = false := decide_eq_false c12
   clear c12
   simp only [Option.some.injEq, Prod.mk.injEq] at H
   obtain ⟨rfl, rfl, rfl⟩ := H
   go_wp2
   go_ret
   exact ⟨_, by first | rfl | (simp [errW_none, errW_some] <;> rfl) | (simp [*, errW_none, errW_some] <;> rfl), by (with_reducible repeat (first | apply Kd.R_alloc | apply Kd.R_drewN | apply Kd.R_drew)); exact HO_3.out, IsS64.pk_ HI0.out, by exact hs_ HB.out, ku_ HK.out⟩
def spec_l1Plain.f (s0_0 : List Int) (s0_1 : Int) (s0_2 : Int) : Option (ByteArray × Int × Int) := (spec_l1Str.f s0_0 s0_1 s0_2 (([(⟨#[97]⟩ : ByteArray), (⟨#[98]⟩ : ByteArray), (⟨#[120, 32, 121]⟩ : ByteArray), (⟨#[]⟩ : ByteArray), (⟨#[99, 114, 105, 116]⟩ : ByteArray), (⟨#[125, 45]⟩ : ByteArray)] : List ByteArray))).bind fun bt353 => (some (bt353.1, bt353.2.1, bt353.2.2))
theorem spec_l1Plain.calls (g : Nat) (s0_0 : List Int) (s0_1 : Int) (s0_2 : Int) (r1 : ByteArray) (r2 : Int) (r3 : Int) (w0 w : World) (hI : IsS64 w0 w g s0_0 s0_1 s0_2) (hB : Below w0.heap.size w0 w) (h : spec_l1Plain.f s0_0 s0_1 s0_2 = some (r1, r2, r3)) :
  Calls Tryd.prog 67 #[.pointer (some ⟨g, 0, none⟩)] w fun e w' => e = .returned (.string r1) ∧ IsS64 w0 w' g s0_0 r2 r3 ∧ Below w0.heap.size w0 w' ∧ KeepBut w w' g none := by
 have HI0 := Aside0.mk hI
 have HK := Aside0.mk (KeepBut.refl w g none)
 have HL := Aside0.mk hB.size
 clear hI
 have HW0 := Aside0.mk hB.size
 have HB := Aside0.mk hB
 clear hB
 have H : ((spec_l1Str.f s0_0 s0_1 s0_2 (([(⟨#[97]⟩ : ByteArray), (⟨#[98]⟩ : ByteArray), (⟨#[120, 32, 121]⟩ : ByteArray), (⟨#[]⟩ : ByteArray), (⟨#[99, 114, 105, 116]⟩ : ByteArray), (⟨#[125, 45]⟩ : ByteArray)] : List ByteArray))).bind fun bt353 => (some (bt353.1, bt353.2.1, bt353.2.2))) = some (r1, r2, r3) := h
 clear h
 obtain ⟨y350, hy350⟩ : ∃ y_ : List ByteArray, y_ = (([(⟨#[97]⟩ : ByteArray), (⟨#[98]⟩ : ByteArray), (⟨#[120, 32, 121]⟩ : ByteArray), (⟨#[]⟩ : ByteArray), (⟨#[99, 114, 105, 116]⟩ : ByteArray), (⟨#[125, 45]⟩ : ByteArray)] : List ByteArray)) := ⟨_, rfl⟩
 replace H : ((spec_l1Str.f s0_0 s0_1 s0_2 y350).bind fun bt353 => (some (bt353.1, bt353.2.1, bt353.2.2))) = some (r1, r2, r3) := by first | (rw [hy350]; with_reducible exact H) | (have H2_ := (Option.bind_some _ _).symm.trans H; rw [hy350]; with_reducible exact H2_) | (have H2_ := (Option.bind_some _ _).symm.trans H; with_reducible exact H2_) | with_reducible exact H | (rw [hy350]; exact H) | exact H
 have Ny350 := Aside0.mk hy350
 clear hy350
 replace H := Option.bind_eq_some_iff.mp H
 obtain ⟨⟨t353, t354, t355⟩, A20, H⟩ := H
 have A2 := Aside0.mk A20
 clear A20
 simp only [Option.some.injEq, Prod.mk.injEq] at H
 obtain ⟨rfl, rfl, rfl⟩ := H
 go_enter Tryd.func67, Tryd.ntmps67
 go_wp2_with (first | ((with_reducible refine gd_ 4 rfl ?_); refine Kd.R_lit Kd.string _ 9 ?hg (N := 4) ?hd (xs := ([(⟨#[97]⟩ : ByteArray), (⟨#[98]⟩ : ByteArray), (⟨#[120, 32, 121]⟩ : ByteArray), (⟨#[]⟩ : ByteArray), (⟨#[99, 114, 105, 116]⟩ : ByteArray), (⟨#[125, 45]⟩ : ByteArray)] : List ByteArray)) (inner := [.string (⟨#[97]⟩ : ByteArray), .string (⟨#[98]⟩ : ByteArray), .string (⟨#[120, 32, 121]⟩ : ByteArray), .string (⟨#[]⟩ : ByteArray), .string (⟨#[99, 114, 105, 116]⟩ : ByteArray), .string (⟨#[125, 45]⟩ : ByteArray)]) (ok := fun _ => True) (okp := fun _ => True) ?hr ?hp (fun _ hk => hk) trivial (Below.refl _ _) (Nat.le_refl _) (by simp) ?_; (case hd => rfl); (case hg => rfl); (case hr => first | (go_simp; done) | (go_simp; rfl)); (case hp => exact (Reps.one (show Kd.M Kd.string _ _ _ (⟨#[97]⟩ : ByteArray) [.string (⟨#[97]⟩ : ByteArray)] from rfl) (Reps.one (show Kd.M Kd.string _ _ _ (⟨#[98]⟩ : ByteArray) [.string (⟨#[98]⟩ : ByteArray)] from rfl) (Reps.one (show Kd.M Kd.string _ _ _ (⟨#[120, 32, 121]⟩ : ByteArray) [.string (⟨#[120, 32, 121]⟩ : ByteArray)] from rfl) (Reps.one (show Kd.M Kd.string _ _ _ (⟨#[]⟩ : ByteArray) [.string (⟨#[]⟩ : ByteArray)] from rfl) (Reps.one (show Kd.M Kd.string _ _ _ (⟨#[99, 114, 105, 116]⟩ : ByteArray) [.string (⟨#[99, 114, 105, 116]⟩ : ByteArray)] from rfl) (Reps.one (show Kd.M Kd.string _ _ _ (⟨#[125, 45]⟩ : ByteArray) [.string (⟨#[125, 45]⟩ : ByteArray)] from rfl) (Reps.none _ _)))))))); intro v351 w3 ho4 hb hg_ hnew_; clear hg_ hnew_; (first | rw [← Ny350.out] at ho4 | (simp only [Int.reduceToNat] at ho4; rw [← Ny350.out] at ho4)); have HO352 := rl_ ho4 HK; have n1_ := IsS64.bk_ HI0 hb; have n2_ := kt_ HK hb; have n3_ := st_ HB hb; clear HI0 HK HB; have HI0 := n1_; have HK := n2_; have HB := n3_; clear n1_ n2_ n3_; clear hb ho4; obtain ⟨Ao5, co5, eo5⟩ := Kd.R_slice HO352.out; subst eo5) | ((with_reducible refine gate_callee (f := 75) rfl ?_); refine gl_ (some 5) Tryd.func75 #[.pointer (some ⟨g, 0, none⟩), .slice Ao5 y350.length co5] ?_; (with_reducible refine (spec_l1Str.calls g s0_0 s0_1 s0_2 _ _ y350 t353 t354 t355 w0 _ ?side1 ?side2 ?side3 ?side4 ?side5 A2.out).mono ?_); (case side1 => exact IsS64.pk_ HI0.out); (case side2 => exact hs_ HB.out); (case side3 => exact cp_ ((Kd.R_reads' HO352.out).2.2)); (case side4 => exact (Kd.R_reads' HO352.out).2.1); (case side5 => exact far_slice (IsS64.own_ne HI0.out HO352.out (by decide))); rintro e w6 ⟨rfl, hi, hb, hk⟩; refine ⟨_, rfl, ?_⟩; replace HO352 := IsS64.rk_ HI0 HO352 hk; replace HK := kh_ HK hk; replace HB := Aside0.mk (hb); replace HI0 := Aside0.mk (hi); (try clear hb); (try clear hk); (try clear hi)))
 go_ret
 exact an_ ⟨IsS64.pk_ HI0.out, by exact hs_ HB.out, ku_ HK.out⟩
def spec_l4Draw.f (k : Nat) (s0_0 : List Int) (s0_1 : Int) (s0_2 : Int) : Option ((List (S83)) × Int × Int × ByteArray × Int × Int) := (spec_l2Draw.f k s0_0 s0_1 s0_2).bind fun bt357 => ((spec_l1Below.f s0_0 bt357.2.1 bt357.2.2 8).bind fun bt362 => ((spec_l1Plain.f s0_0 bt362.2.1 bt362.2.2).bind fun bt365 => ((spec_l1Int.f s0_0 bt365.2.1 bt365.2.2 (([0, 2, 5, 20, 60] : List Int))).bind fun bt372 => (some (bt357.1, bt362.1, wrap64 (bt362.1 + bt372.1), bt365.1, bt372.2.1, bt372.2.2)))))
theorem spec_l4Draw.mono : ∀ a0 a1 a2 k, LeO (spec_l4Draw.f k a0 a1 a2) (spec_l4Draw.f (k + 1) a0 a1 a2) := by
 intro a0 a1 a2 k
 unfold spec_l4Draw.f
 repeat' first | (with_reducible first | exact spec_l2Draw.mono _ _ _ _ | exact LeO.refl _ | exact LeO.none _ | refine LeO.ite ?_ ?_ | refine LeO.bind ?_ (fun _ => ?_)) | exact spec_l2Draw.mono _ _ _ _
def spec_l4Draw.T2 : Bool × List (List Nat × List Nat) := (true, [([], []), ([0], [0]), ([], []), ([], []), ([2, 3], [2, 3]), ([1, 4], [1, 4]), ([0, 1, 2, 3, 4, 5], []), ([6, 5, 4, 0, 1, 2, 3, 4, 5], [5, 6])])
def spec_l4Draw.B2 : List Nat := [0, 1, 0, 0, 12, 31, 63, 127]
theorem spec_l4Draw.tab2 : rtab .any (opsOf Tryd.f45 2) = spec_l4Draw.T2 := by kernel_rfl
theorem spec_l4Draw.bits2 : waitsOk spec_l4Draw.T2.2 spec_l4Draw.B2 = true := by kernel_rfl
theorem spec_l4Draw.calls (k : Nat) (g : Nat) (s0_0 : List Int) (s0_1 : Int) (s0_2 : Int) (r1 : List (S83)) (r2 : Int) (r3 : Int) (r4 : ByteArray) (r5 : Int) (r6 : Int) (w0 w : World) (hI : IsS64 w0 w g s0_0 s0_1 s0_2) (hB : Below w0.heap.size w0 w) (h : spec_l4Draw.f k s0_0 s0_1 s0_2 = some (r1, r2, r3, r4, r5, r6)) :
  Calls Tryd.prog 45 #[.pointer (some ⟨g, 0, none⟩)] w fun e w' => ∃ v0_ : Value, e = .returned (.agg #[v0_, .int .i64 r2, .int .i64 r3, .string r4]) ∧ Kd.R k83 83 w' w.heap.size (fun _ => True) v0_ r1 ∧ IsS64 w0 w' g s0_0 r5 r6 ∧ Below w0.heap.size w0 w' ∧ KeepBut w w' g none := by
 have hu37 := Tryd.underlying37
 have HI0 := Aside0.mk hI
 have HK := Aside0.mk (KeepBut.refl w g none)
 have HL := Aside0.mk hB.size
 clear hI
 have HW0 := Aside0.mk hB.size
 have HB := Aside0.mk hB
 clear hB
 have H : ((spec_l2Draw.f k s0_0 s0_1 s0_2).bind fun bt357 => ((spec_l1Below.f s0_0 bt357.2.1 bt357.2.2 8).bind fun bt362 => ((spec_l1Plain.f s0_0 bt362.2.1 bt362.2.2).bind fun bt365 => ((spec_l1Int.f s0_0 bt365.2.1 bt365.2.2 (([0, 2, 5, 20, 60] : List Int))).bind fun bt372 => (some (bt357.1, bt362.1, wrap64 (bt362.1 + bt372.1), bt365.1, bt372.2.1, bt372.2.2)))))) = some (r1, r2, r3, r4, r5, r6) := h
 clear h
 replace H := Option.bind_eq_some_iff.mp H
 obtain ⟨⟨t357, t360, t361⟩, A20, H⟩ := H
 have A2 := Aside0.mk A20
 clear A20
 replace H := Option.bind_eq_some_iff.mp H
 obtain ⟨⟨t362, t363, t364⟩, A30, H⟩ := H
 have A3 := Aside0.mk A30
 clear A30
 replace H := Option.bind_eq_some_iff.mp H
 obtain ⟨⟨t365, t366, t367⟩, A40, H⟩ := H
 have A4 := Aside0.mk A40
 clear A40
 obtain ⟨y369, hy369⟩ : ∃ y_ : List Int, y_ = (([0, 2, 5, 20, 60] : List Int)) := ⟨_, rfl⟩
 replace H : ((spec_l1Int.f s0_0 t366 t367 y369).bind fun bt372 => (some (t357, t362, wrap64 (t362 + bt372.1), t365, bt372.2.1, bt372.2.2))) = some (r1, r2, r3, r4, r5, r6) := by first | (rw [hy369]; with_reducible exact H) | (have H2_ := (Option.bind_some _ _).symm.trans H; rw [hy369]; with_reducible exact H2_) | (have H2_ := (Option.bind_some _ _).symm.trans H; with_reducible exact H2_) | with_reducible exact H | (rw [hy369]; exact H) | exact H
 have Ny369 := Aside0.mk hy369
 clear hy369
 replace H := Option.bind_eq_some_iff.mp H
 obtain ⟨⟨t372, t373, t374⟩, A50, H⟩ := H
 have A5 := Aside0.mk A50
 clear A50
 simp only [Option.some.injEq, Prod.mk.injEq] at H
 obtain ⟨rfl, rfl, rfl, rfl, rfl, rfl⟩ := H
 go_enter Tryd.func45, Tryd.ntmps45
 try go_wp2_with (first | ((with_reducible refine gd_ 2 rfl ?_); refine bv_ 2 #[.slice none 0 0, .int .i64 0, .int .i64 0, .string (⟨#[]⟩ : ByteArray)] 37 ?_; intro gb356 hg w6 hbox hb; replace HB := st_ HB hb; have BK356 := Aside0.mk (hbox); have GW356 := Ge_.mk ((by rw [hg]; exact (ks_ HK) : w.heap.size ≤ gb356)); replace HK := kt_ HK hb; have GE356 := gt_ HW0 GW356; have NB0_356 := IsS64.nl_ HI0 hg; replace HI0 := IsS64.bk_ HI0 hb; have NB356_0 := ns_ NB0_356; clear hb hbox hg) | ((with_reducible refine gate_callee (f := 66) rfl ?_); refine gl_ (some 5) Tryd.func66 #[.pointer (some ⟨g, 0, none⟩)] ?_; (with_reducible refine (spec_l2Draw.calls k g s0_0 s0_1 s0_2 t357 t360 t361 w0 _ ?side1 ?side2 A2.out).mono ?_); (case side1 => exact IsS64.pk_ HI0.out); (case side2 => exact hs_ HB.out); rintro e w7 ⟨v358, rfl, ho0, hi, hb, hk⟩; refine ⟨_, rfl, ?_⟩; replace BK356 := kb_ hk BK356; have HO359 := rl_ ho0 HK; replace HK := kh_ HK hk; replace HB := Aside0.mk (hb); replace HI0 := Aside0.mk (hi); (try clear hb); (try clear hk); (try clear hi); (try clear ho0)) | ((with_reducible refine gate_callee (f := 43) rfl ?_); refine gl_ (some 7) Tryd.func43 #[.pointer (some ⟨g, 0, none⟩), .int .i64 8] ?_; (with_reducible refine (spec_l1Below.calls g s0_0 t360 t361 8 t362 t363 t364 w0 _ ?side1 ?side2 A3.out).mono ?_); (case side1 => exact IsS64.pk_ HI0.out); (case side2 => exact hs_ HB.out); rintro e w8 ⟨rfl, hi, hb, hk⟩; refine ⟨_, rfl, ?_⟩; replace BK356 := kb_ hk BK356; replace HO359 := IsS64.rk_ HI0 HO359 hk; replace HK := kh_ HK hk; replace HB := Aside0.mk (hb); replace HI0 := Aside0.mk (hi); (try clear hb); (try clear hk); (try clear hi)) | ((with_reducible refine gate_callee (f := 67) rfl ?_); refine gl_ (some 9) Tryd.func67 #[.pointer (some ⟨g, 0, none⟩)] ?_; (with_reducible refine (spec_l1Plain.calls g s0_0 t363 t364 t365 t366 t367 w0 _ ?side1 ?side2 A4.out).mono ?_); (case side1 => exact IsS64.pk_ HI0.out); (case side2 => exact hs_ HB.out); rintro e w9 ⟨rfl, hi, hb, hk⟩; refine ⟨_, rfl, ?_⟩; replace BK356 := kb_ hk BK356; replace HO359 := IsS64.rk_ HI0 HO359 hk; replace HK := kh_ HK hk; replace HB := Aside0.mk (hb); replace HI0 := Aside0.mk (hi); (try clear hb); (try clear hk); (try clear hi); obtain ⟨Ao10, co10, eo10⟩ := Kd.R_slice HO359.out; subst eo10) | ((with_reducible refine gd_ 3 rfl ?_); refine bv_ 3 #[.slice none 0 0, .int .i64 0, .int .i64 0, .string (⟨#[]⟩ : ByteArray)] 37 ?_; intro gb368 hg w11 hbox hb; replace HO359 := rb_ HO359 hb; replace HB := st_ HB hb; have BK368 := Aside0.mk (hbox); have GW368 := Ge_.mk ((by rw [hg]; exact (ks_ HK) : w.heap.size ≤ gb368)); replace HK := kt_ HK hb; have GE368 := gt_ HW0 GW368; have NB356_368 := nk_ BK356 hg; replace BK356 := bk2_ BK356 hb; have NB368_356 := ns_ NB356_368; have NB0_368 := IsS64.nl_ HI0 hg; replace HI0 := IsS64.bk_ HI0 hb; have NB368_0 := ns_ NB0_368; clear hb hbox hg; have hnb12 := NB368_356.out; have hnc12 := NB356_368.out; have hnb13 := NB368_0.out; have hnc13 := NB0_368.out; obtain ⟨z14_0, z14_1, z14_2, z14_3, y14_0, y14_1, y14_2, y14_3⟩ := bc4_ BK368.out))
 generalize hw_ : ((((w11.setCell ⟨gb368, 0, none⟩ (.slice Ao10 t357.length co10)).setCell ⟨gb368, 1, none⟩ (.int .i64 t362)).setCell ⟨gb368, 2, none⟩ (.int .i64 0)).setCell ⟨gb368, 3, none⟩ (.string t365)) = w15
 have n0_ : Aside0 (Kd.R k83 83 w15 w.heap.size (fun _ => True) (.slice Ao10 t357.length co10) t357) := ⟨by rw [← hw_]; exact (Kd.R_mono (rf_ gb368 (Kd.R_types HO359.out BK368.out (by decide)) (fun _ hk => hk.2)) (fun _ hk => trivial))⟩
 have n1_ : Aside0 (w15.heap[gb356]? = some (.cells #[.slice none 0 0, .int .i64 0, .int .i64 0, .string (⟨#[]⟩ : ByteArray)] 37 (0, 0))) := ⟨by rw [← hw_]; exact (bq_ BK356.out)⟩
 have n2_ : Aside0 (w15.heap[gb368]? = some (.cells #[.slice Ao10 t357.length co10, .int .i64 t362, .int .i64 0, .string t365] 37 (0, 0))) := ⟨by rw [← hw_]; exact (bp_ BK368.out)⟩
 have n3_ : Aside0 (IsS64 w0 w15 g s0_0 t366 t367) := ⟨by rw [← hw_]; exact (IsS64.pk_ HI0.out)⟩
 have n4_ : Aside0 (KeepBut w w15 g none) := ⟨by rw [← hw_]; exact (ku_ HK.out)⟩
 have n5_ : Aside0 (Below w0.heap.size w0 w15) := ⟨by rw [← hw_]; exact (hs_ HB.out)⟩
 clear hw_
 (try clear HO359)
 (try clear BK356)
 (try clear BK368)
 (try clear HI0)
 (try clear HK)
 (try clear HB)
 have HO359 := n0_
 have BK356 := n1_
 have BK368 := n2_
 have HI0 := n3_
 have HK := n4_
 have HB := n5_
 clear n0_ n1_ n2_ n3_ n4_ n5_
 replace HO359 := Aside0.mk (Kd.R_drew HO359.out)
 replace BK356 := Aside0.mk (blk_drew BK356.out)
 replace BK368 := Aside0.mk (blk_drew BK368.out)
 replace HI0 := Aside0.mk (IsS64.drew HI0.out)
 replace HK := Aside0.mk (keep_drew HK.out)
 replace HB := Aside0.mk (bd_ HB.out)
 refine start_ (n := 8) (S := fun w' => w'.cell? ⟨gb368, 0, none⟩ = some (.slice Ao10 t357.length co10) ∧ w'.cell? ⟨gb368, 1, none⟩ = some (.int .i64 t362) ∧ w'.cell? ⟨gb368, 2, none⟩ = some (.int .i64 0) ∧ w'.cell? ⟨gb368, 3, none⟩ = some (.string t365)) (ds := [7]) (b_ 0 8) (by kernel_rfl) rfl rfl ⟨bx_ BK368.out 0, bx_ BK368.out 1, bx_ BK368.out 2, bx_ BK368.out 3⟩ (fun hHeld => ?_); refine with_tabW spec_l4Draw.tab2 spec_l4Draw.bits2 (fun HT_ HW_ => ?_)
 generalize w15.drew = w16 at HO359 BK356 BK368 HI0 HK HB hHeld ⊢
 refine pw_ 0 11 (b_ 1 7) rfl rfl HT_.out ?_
 refine pw_ 2 13 #[t_,f_,t_,f_,f_,f_,f_,f_] rfl rfl HT_.out ?_
 refine take_ (i := 1) (N := some 12) (v := ?_) (a' := ?_) (b_ 3 5) rfl rfl (take_ofW HT_.out HW_.out (by kernel_rfl)) (fun _ _ _ h => h) (Or.inl ⟨by rfl, ?_⟩) hHeld ?_ ?_
 rotate_left
 ·
  rintro w' ⟨s0, s1, s2, s3⟩
  go_simp
  with_reducible rfl
 rotate_left
 ·
  simp only [fr_]
  rfl
 refine one_ (i := 3) (N := some 14) (b_ 4 4) rfl rfl (one_of HT_.out (by kernel_rfl)) (by decide) (fun K hK => ?_)
 refine Kd.R_lit_step (Kd.int .i64) _ 3 ?hg (N := 14) ?hd (xs := ([0, 2, 5, 20, 60] : List Int)) (inner := [.int .i64 0, .int .i64 2, .int .i64 5, .int .i64 20, .int .i64 60]) (ok := fun _ => True) (okp := fun _ => True) ?hr ?hp (fun _ hk => hk) trivial (Below.refl _ _) (Nat.le_refl _) (by simp) ?_; (case hd => rfl); (case hg => rfl); (case hr => first | (go_simp; done) | (go_simp; rfl)); (case hp => exact (Reps.one (show Kd.M (Kd.int .i64) _ _ _ 0 [.int .i64 0] from rfl) (Reps.one (show Kd.M (Kd.int .i64) _ _ _ 2 [.int .i64 2] from rfl) (Reps.one (show Kd.M (Kd.int .i64) _ _ _ 5 [.int .i64 5] from rfl) (Reps.one (show Kd.M (Kd.int .i64) _ _ _ 20 [.int .i64 20] from rfl) (Reps.one (show Kd.M (Kd.int .i64) _ _ _ 60 [.int .i64 60] from rfl) (Reps.none _ _)))))))
 intro v370 w17 ho18 hb hg_ hnew_
 clear hg_ hnew_
 (first | rw [← Ny369.out] at ho18 | (simp only [Int.reduceToNat] at ho18; rw [← Ny369.out] at ho18))
 replace HO359 := rb_ HO359 hb
 have HO371 := rl_ ho18 HK
 replace HI0 := IsS64.bk_ HI0 hb
 replace BK356 := bk2_ BK356 hb
 replace BK368 := bk2_ BK368 hb
 replace HK := kt_ HK hb
 replace HB := st_ HB hb
 clear hb ho18
 obtain ⟨Ao19, co19, eo19⟩ := Kd.R_slice HO371.out
 (first | subst eo19 | (obtain ⟨rfl, rfl⟩ := si_ eo19))
 refine hK.out _ _ (e4_ BK368.out) (fun hHeld => ?_)
 clear hK K
 refine norm_ (a' := ?_) ?_ ?_
 rotate_left
 ·
  show Act.put _ (some 14) _ = _
  simp only [fr_]
  rfl
 refine one_ (i := 4) (N := some 15) (b_ 5 3) rfl rfl (one_of HT_.out (by kernel_rfl)) (by decide) (fun K hK => ?_)
 refine gs_ Tryd.func28 #[.pointer (some ⟨g, 0, none⟩), .slice Ao19 y369.length co19] ?_
 with_reducible refine (spec_l1Int.calls g s0_0 t366 t367 _ _ y369 t372 t373 t374 w0 _ ?side1 ?side2 ?side3 ?side4 ?side5 A5.out).mono ?_
 (case side1 => exact IsS64.pk_ HI0.out)
 (case side2 => exact hs_ HB.out)
 (case side3 => exact cp_ ((Kd.R_reads' HO371.out).2.2))
 (case side4 => exact (Kd.R_reads' HO371.out).2.1)
 (case side5 => exact far_slice (IsS64.own_ne HI0.out HO371.out (by decide)))
 rintro e w20 ⟨rfl, hi, hb, hk⟩
 refine ⟨_, rfl, ?_⟩
 replace BK356 := kb_ hk BK356
 replace HO359 := IsS64.rk_ HI0 HO359 hk
 replace BK368 := kb_ hk BK368
 replace HO371 := IsS64.rk_ HI0 HO371 hk
 replace HK := kh_ HK hk
 replace HB := Aside0.mk (hb)
 replace HI0 := Aside0.mk (hi)
 (try clear hb)
 (try clear hk)
 (try clear hi)
 refine hK.out _ _ (e4_ BK368.out) (fun hHeld => ?_)
 clear hK K
 refine norm_ (a' := ?_) ?_ ?_
 rotate_left
 ·
  show Act.put _ (some 15) _ = _
  simp only [fr_]
  rfl
 refine pw_ 5 16 (b_ 6 2) rfl rfl HT_.out ?_
 refine pw_ 6 17 (b_ 7 1) rfl rfl HT_.out ?_
 refine last_ (i := 7) (N := none) (b_ 8 0) rfl rfl (one_of HT_.out (by kernel_rfl)) (by decide) (fun K hK => ?_)
 have hs21 : w20.cell? ⟨gb368, 2, none⟩ = some (.int .i64 0) := bx_ BK368.out 2
 have hfs21 := blk_frozen BK368.out 2
 have hns21_0 := NB356_368.out
 have hms21_0 := NB368_356.out
 refine skip_ (w1 := ?_) (by rfl) rfl ?_ ?_
 rotate_left
 ·
  go_simp
  rfl
 refine hK.out _ _ ?_
 clear hK K
 refine done_ (done_of HT_.out (by kernel_rfl)) ?_
 obtain ⟨z22_0, z22_1, z22_2, z22_3, y22_0, y22_1, y22_2, y22_3⟩ := bc4_ BK368.out
 have hnb23 := NB356_0.out
 have hnc23 := NB0_356.out
 obtain ⟨z24_0, z24_1, z24_2, z24_3, y24_0, y24_1, y24_2, y24_3⟩ := bc4_ BK356.out
 try go_wp2
 refine bodyPost_ret (results_cell_row rfl _ _ gb356 37 #[.slice Ao10 t357.length co10, .int .i64 t362, .int .i64 (wrap64 (t362 + t372)), .string t365] (0, 0) _ rfl (bp_ BK356.out) Tryd.underlying37 rfl (by kernel_rfl)) rfl ?_
 exact ⟨_, by first | rfl | (simp [errW_none, errW_some] <;> rfl) | (simp [*, errW_none, errW_some] <;> rfl), by (with_reducible repeat (first | apply Kd.R_alloc | apply Kd.R_drewN | apply Kd.R_drew)); exact Kd.R_mono (rf_ gb356 (Kd.R_far (p := ⟨gb368, 2, none⟩) (Kd.R_types (Kd.R_types HO359.out BK368.out (by decide)) BK356.out (by decide)) (fun _ hk => hk.1.2) (.int .i64 (wrap64 (t362 + t372)))) (fun _ hk => hk.2)) (fun _ hk => trivial), IsS64.pk_ HI0.out, by exact hs_ HB.out, ku_ HK.out⟩
def spec_l5Has.l0 : Nat → List ByteArray → ByteArray → Int → Option (Bool)
 | 0, _, _, _ => none
 | k + 1, x0, x1, x5 => if x5 < (x0.length : Int) then (if 0 ≤ x5 then (if (rdOf ByteArray.empty x0 x5).toList = x1.toList then (some true) else (spec_l5Has.l0 k x0 x1 (wrap64 (x5 + 1)))) else (none)) else (some false)
def spec_l5Has.f (k : Nat) (l0 : List ByteArray) (a1 : ByteArray) : Option (Bool) := spec_l5Has.l0 k l0 a1 0
theorem spec_l5Has.mono_l : ∀ k, (∀ y0 y1 y2, LeO (spec_l5Has.l0 k y0 y1 y2) (spec_l5Has.l0 (k + 1) y0 y1 y2))
 | 0 => fun _ _ _ r h => by simp [spec_l5Has.l0] at h
 | k + 1 => by
  have ih0 := spec_l5Has.mono_l k
  intro y0 y1 y2
  unfold spec_l5Has.l0
  repeat' first
  | (with_reducible exact ih0 _ _ _)
  | (with_reducible exact LeO.refl _)
  | (with_reducible exact LeO.none _)
  | (with_reducible refine LeO.ite ?_ ?_)
  | (with_reducible refine LeO.bind ?_ (fun _ => ?_))
  | exact ih0 _ _ _
theorem spec_l5Has.mono : ∀ a0 a1 k, LeO (spec_l5Has.f k a0 a1) (spec_l5Has.f (k + 1) a0 a1) := by
 intro a0 a1 k
 have ih0 := spec_l5Has.mono_l k
 unfold spec_l5Has.f
 repeat' first | (with_reducible first | exact ih0 _ _ _ | exact LeO.refl _ | exact LeO.none _ | refine LeO.ite ?_ ?_ | refine LeO.bind ?_ (fun _ => ?_)) | exact ih0 _ _ _
theorem spec_l5Has.calls (k : Nat) (A0 : Option Addr) (c0 : Nat) (l0 : List ByteArray) (a1 : ByteArray) (r : Bool) (w : World) (hr0 : Kd.C Kd.string w A0 l0.length l0) (hc0 : l0.length ≤ c0) (h : spec_l5Has.f k l0 a1 = some r) :
  Calls Tryd.prog 82 #[.slice A0 l0.length c0, .string a1] w fun e w' => e = .returned (.bool r) ∧ Drawn0 w w' := by
 have HR0 := Aside0.mk hr0
 have HC0 := Aside0.mk hc0
 clear hr0 hc0
 have H : (spec_l5Has.l0 k l0 a1 0) = some r := h
 clear h
 have H' := Aside0.mk H
 clear H
 go_enter Tryd.func82, Tryd.ntmps82
 go_wp2
 go_loopg [5] k (fun kq v5 w' => ∃ (x5_1 : Int), v5 = .int .i64 x5_1 ∧ Aside0 (spec_l5Has.l0 kq l0 a1 x5_1 = some r) ∧ Aside0 (kq ≤ k) ∧ Drawn0 w w')
 case atStart => exact ⟨(0), (by first | rfl | (simp; done) | (simp [*]; done)), H', ⟨Nat.le_refl _⟩, by repeat (first | exact Drawn0.refl _ | apply Drawn0.step)⟩
 case round =>
  clear H'
  try clear p2
  obtain ⟨x5_1, rfl, HA, HK1, ⟨m1, rfl⟩⟩ := hrel
  cases gk with
  | zero => exact absurd HA.out (by simp [spec_l5Has.l0])
  | succ k1 =>
   have H := HA.out
   clear HA
   simp only [spec_l5Has.l0] at H
   by_cases c3 : x5_1 < (l0.length : Int)
   ·
    rw [if_pos c3] at H
    have c3b0 := decide_eq_true c3
    clear c3
    by_cases c4 : 0 ≤ x5_1
    ·
     rw [if_pos c4] at H
     have c4b0 := decide_eq_true c4
     clear c4
     by_cases c5 : (rdOf ByteArray.empty l0 x5_1).toList = a1.toList
     ·
      rw [if_pos c5] at H
      have c5b0 : ((rdOf ByteArray.empty l0 x5_1).toList == a1.toList) = true := beq_iff_eq.mpr c5
      have c5b1 : ((rdOf ByteArray.empty l0 x5_1).toList != a1.toList) = false := bne_eq_false_iff_eq.mpr c5
      clear c5
      obtain rfl := Option.some.inj H
      have p375 : 0 ≤ (x5_1 : Int) := of_decide_eq_true (by with_reducible assumption)
      have q375 : x5_1 < (l0.length : Int) := of_decide_eq_true (by with_reducible assumption)
      obtain ⟨ad375, e375, hx375_0⟩ := Kd.at_string HR0.out x5_1 p375 q375
      cases e375
      replace p375 := eq_true p375
      replace q375 := eq_true q375
      go_wp2
      go_ret
      exact ⟨by first | rfl | (simp; done) | (simp [*]; done), by repeat (first | exact Drawn0.refl _ | apply Drawn0.step)⟩
     rw [if_neg c5] at H
     have c5b0 : ((rdOf ByteArray.empty l0 x5_1).toList == a1.toList) = false := beq_eq_false_iff_ne.mpr c5
     have c5b1 : ((rdOf ByteArray.empty l0 x5_1).toList != a1.toList) = true := bne_iff_ne.mpr c5
     have H' := Aside0.mk H
     clear H
     have p375 : 0 ≤ (x5_1 : Int) := of_decide_eq_true (by with_reducible assumption)
     have q375 : x5_1 < (l0.length : Int) := of_decide_eq_true (by with_reducible assumption)
     obtain ⟨ad375, e375, hx375_0⟩ := Kd.at_string HR0.out x5_1 p375 q375
     cases e375
     replace p375 := eq_true p375
     replace q375 := eq_true q375
     go_wp2
     go_roundg k1
     case measure => have := HK1.out; omega
     case rel => exact ⟨(wrap64 (x5_1 + 1)), (by first | rfl | (simp; done) | (simp [*]; done)), H', ⟨by have := HK1.out; omega⟩, by repeat (first | exact Drawn0.refl _ | apply Drawn0.step)⟩
    rw [if_neg c4] at H
    exact absurd H (by simp)
   rw [if_neg c3] at H
   have c3b0 : decide (x5_1 < (l0.length : Int)) = false := decide_eq_false c3
   clear c3
   obtain rfl := Option.some.inj H
   go_wp2
   go_ret
   exact ⟨by first | rfl | (simp; done) | (simp [*]; done), by repeat (first | exact Drawn0.refl _ | apply Drawn0.step)⟩
def spec_Project.l0 : Nat → List (S83) → List ByteArray → List (S83) → Int → Option ((List (S83)))
 | 0, _, _, _, _ => none
 | k + 1, x0, x1, x5, x6 => if x6 < (x0.length : Int) then (if 0 ≤ x6 then ((spec_l5Has.f k x1 ((rd_T83 x0 x6).f0)).bind fun t380 => (if t380 = true then (if x5.length < 4398046511104 then (spec_Project.l0 k x0 x1 (x5 ++ [(⟨(rd_T83 x0 x6).f0, (rd_T83 x0 x6).f1⟩ : S83)]) (wrap64 (x6 + 1))) else (none)) else (spec_Project.l0 k x0 x1 x5 (wrap64 (x6 + 1))))) else (none)) else (some x5)
def spec_Project.f (k : Nat) (l0 : List (S83)) (l1 : List ByteArray) : Option ((List (S83))) := spec_Project.l0 k l0 l1 (([] : List (S83))) 0
theorem spec_Project.mono_l : ∀ k, (∀ y0 y1 y2 y3, LeO (spec_Project.l0 k y0 y1 y2 y3) (spec_Project.l0 (k + 1) y0 y1 y2 y3))
 | 0 => fun _ _ _ _ r h => by simp [spec_Project.l0] at h
 | k + 1 => by
  have ih0 := spec_Project.mono_l k
  intro y0 y1 y2 y3
  unfold spec_Project.l0
  repeat' first
  | (with_reducible exact ih0 _ _ _ _)
  | (with_reducible exact spec_l5Has.mono _ _ _)
  | (with_reducible exact LeO.refl _)
  | (with_reducible exact LeO.none _)
  | (with_reducible refine LeO.ite ?_ ?_)
  | (with_reducible refine LeO.bind ?_ (fun _ => ?_))
  | exact ih0 _ _ _ _
  | exact spec_l5Has.mono _ _ _
theorem spec_Project.mono : ∀ a0 a1 k, LeO (spec_Project.f k a0 a1) (spec_Project.f (k + 1) a0 a1) := by
 intro a0 a1 k
 have ih0 := spec_Project.mono_l k
 unfold spec_Project.f
 repeat' first | (with_reducible first | exact ih0 _ _ _ _ | exact spec_l5Has.mono _ _ _ | exact LeO.refl _ | exact LeO.none _ | refine LeO.ite ?_ ?_ | refine LeO.bind ?_ (fun _ => ?_)) | exact ih0 _ _ _ _ | exact spec_l5Has.mono _ _ _
theorem spec_Project.calls (k : Nat) (A0 : Option Addr) (c0 : Nat) (l0 : List (S83)) (A1 : Option Addr) (c1 : Nat) (l1 : List ByteArray) (r : List (S83)) (w : World) (hr0 : Kd.C k83 w A0 l0.length l0) (hc0 : l0.length ≤ c0) (hr1 : Kd.C Kd.string w A1 l1.length l1) (hc1 : l1.length ≤ c1) (h : spec_Project.f k l0 l1 = some r) :
  Calls Tryd.prog 68 #[.slice A0 l0.length c0, .slice A1 l1.length c1] w fun e w' => ∃ v0_ : Value, e = .returned (v0_) ∧ Kd.R k83 83 w' w.heap.size (fun _ => True) v0_ r ∧ Below w.heap.size w w' := by
 have hu83 := Tryd.underlying83
 have HR0 := Aside0.mk hr0
 have HC0 := Aside0.mk hc0
 clear hr0 hc0
 have HR1 := Aside0.mk hr1
 have HC1 := Aside0.mk hc1
 clear hr1 hc1
 have HB := Aside0.mk (Below.refl w.heap.size w)
 have H : (spec_Project.l0 k l0 l1 (([] : List (S83))) 0) = some r := h
 clear h
 obtain ⟨y376, hy376⟩ : ∃ y_ : List (S83), y_ = (([] : List (S83))) := ⟨_, rfl⟩
 replace H : (spec_Project.l0 k l0 l1 y376 0) = some r := by first | (rw [hy376]; with_reducible exact H) | (have H2_ := (Option.bind_some _ _).symm.trans H; rw [hy376]; with_reducible exact H2_) | (have H2_ := (Option.bind_some _ _).symm.trans H; with_reducible exact H2_) | with_reducible exact H | (rw [hy376]; exact H) | exact H
 have Ny376 := Aside0.mk hy376
 clear hy376
 have H' := Aside0.mk H
 clear H
 go_enter Tryd.func68, Tryd.ntmps68
 go_wp2_with (first | ((with_reducible refine gd_ 7 rfl ?_); refine Kd.R_lit k83 _ 83 ?hg (N := 7) ?hd (xs := ([] : List (S83))) (inner := []) (ok := fun _ => True) (okp := fun _ => True) ?hr ?hp (fun _ hk => hk) trivial (Below.refl _ _) (Nat.le_refl _) (by simp) ?_; (case hd => rfl); (case hg => rfl); (case hr => first | (go_simp; done) | (go_simp; rfl)); (case hp => exact (Reps.none _ _)); intro v377 w3 ho4 hb hg_ hnew_; clear hg_ hnew_; (first | rw [← Ny376.out] at ho4 | (simp only [Int.reduceToNat] at ho4; rw [← Ny376.out] at ho4)); have HO378 := Aside0.mk (Kd.R_lower ho4 (below_size (hs_ HB.out))); have n1_ := st_ HB hb; clear HB; have HB := n1_; clear n1_; clear hb ho4))
 go_loopg [5, 6] k (fun kq v5 v6 w' => ∃ (x5_1 : List (S83)) (x6_1 : Int), v6 = .int .i64 x6_1 ∧ Aside0 (spec_Project.l0 kq l0 l1 x5_1 x6_1 = some r) ∧ Aside0 (kq ≤ k) ∧ Aside0 (Kd.R k83 83 w' w.heap.size (fun _ => True) v5 x5_1) ∧ Aside0 (Below w.heap.size w w'))
 case atStart => exact ⟨(y376), (0), (by first | rfl | (simp; done) | (simp [*]; done)), H', ⟨Nat.le_refl _⟩, ⟨by (with_reducible repeat (first | apply Kd.R_alloc | apply Kd.R_drewN | apply Kd.R_drew)); exact HO378.out⟩, ⟨by exact hs_ HB.out⟩⟩
 case round =>
  clear H'
  try clear c1
  try clear p2
  obtain ⟨x5_1, x6_1, rfl, HA, HK1, HO_5, HB⟩ := hrel
  cases gk with
  | zero => exact absurd HA.out (by simp [spec_Project.l0])
  | succ k1 =>
   have H := HA.out
   clear HA
   simp only [spec_Project.l0] at H
   by_cases c5 : x6_1 < (l0.length : Int)
   ·
    rw [if_pos c5] at H
    have c5b0 := decide_eq_true c5
    clear c5
    by_cases c6 : 0 ≤ x6_1
    ·
     rw [if_pos c6] at H
     have c6b0 := decide_eq_true c6
     clear c6
     replace H := Option.bind_eq_some_iff.mp H
     obtain ⟨t380, A70, H⟩ := H
     have A7 := Aside0.mk A70
     clear A70
     by_cases c8 : t380 = true
     ·
      subst c8
      rw [if_pos rfl] at H
      by_cases c9 : x5_1.length < 4398046511104
      ·
       rw [if_pos c9] at H
       have LMc9 := Aside0.mk c9
       clear c9
       obtain ⟨y382, hy382⟩ : ∃ y_ : List (S83), y_ = (x5_1 ++ [(⟨(rd_T83 l0 x6_1).f0, (rd_T83 l0 x6_1).f1⟩ : S83)]) := ⟨_, rfl⟩
       replace H : (spec_Project.l0 k1 l0 l1 y382 (wrap64 (x6_1 + 1))) = some r := by first | (rw [hy382]; with_reducible exact H) | (have H2_ := (Option.bind_some _ _).symm.trans H; rw [hy382]; with_reducible exact H2_) | (have H2_ := (Option.bind_some _ _).symm.trans H; with_reducible exact H2_) | with_reducible exact H | (rw [hy382]; exact H) | exact H
       have Ny382 := Aside0.mk hy382
       clear hy382
       have H' := Aside0.mk H
       clear H
       have p379 : 0 ≤ (x6_1 : Int) := of_decide_eq_true (by with_reducible assumption)
       have q379 : x6_1 < (l0.length : Int) := of_decide_eq_true (by with_reducible assumption)
       obtain ⟨ad379, e379, hx379_0, hx379_1⟩ := at_T83 HR0.out x6_1 p379 q379
       cases e379
       replace hx379_0 := cl_ HB.out hx379_0
       replace hx379_1 := cl_ HB.out hx379_1
       replace p379 := eq_true p379
       replace q379 := eq_true q379
       go_wp2_with (first | ((with_reducible refine gate_callee (f := 82) rfl ?_); refine gl_ (some 20) Tryd.func82 #[.slice A1 l1.length c1, .string ((rd_T83 l0 x6_1).f0)] ?_; (with_reducible refine (spec_l5Has.calls k1 _ _ l1 ((rd_T83 l0 x6_1).f0) true _ ?side1 ?side2 A7.out).mono ?_); (case side1 => exact cp_ ((Kd.C_below HR1.out HB.out))); (case side2 => exact HC1.out); rintro e w' ⟨rfl, ⟨nd, rfl⟩⟩; refine ⟨_, rfl, ?_⟩; have p381 : 0 ≤ (x6_1 : Int) := of_decide_eq_true (by with_reducible assumption); have q381 : x6_1 < (l0.length : Int) := of_decide_eq_true (by with_reducible assumption); obtain ⟨ad381, e381, hx381_0, hx381_1⟩ := at_T83 HR0.out x6_1 p381 q381; obtain rfl : ad379 = ad381 := (by injection e381); replace hx381_0 := cl_ HB.out hx381_0; replace hx381_1 := cl_ HB.out hx381_1; replace p381 := eq_true p381; replace q381 := eq_true q381) | ((with_reducible refine gate_builtin (b := .append) (xs := #[.tmp 21, .tmp 26]) rfl ?_); at_builtin; refine Kd.R_append k83 (w0 := w) w.heap.size rfl (.tmp 21) (.tmp 26) 30 83 (.agg #[(.string ⟨#[]⟩), (.string ⟨#[]⟩)]) 32 rfl Tryd.underlying30 info83 rfl (by decide) (by omega) u5 x5_1 (⟨(rd_T83 l0 x6_1).f0, (rd_T83 l0 x6_1).f1⟩ : S83) [.string ((rd_T83 l0 x6_1).f0), .string ((rd_T83 l0 x6_1).f1)] (fun _ => True) (fun _ => False) rfl rfl ?aP (fun _ hk => hk.elim) ?aF ?aO ?aB ?aS ?aL ?_; (case aP => exact k83_mkM _ _ _ (⟨(rd_T83 l0 x6_1).f0, (rd_T83 l0 x6_1).f1⟩ : S83)); (case aB => exact (hs_ HB.out)); (case aF => exact (fun _ _ => trivial)); (case aO => exact (rp_ HO_5.out)); (case aS => exact (below_size (hs_ HB.out))); (case aL => have := LMc9.out; omega); intro v383 w10 ho hb hg hat; rw [← Ny382.out] at ho; replace HB := Aside0.mk (hb); have HO384 := Aside0.mk (ho); clear HO_5; clear ho hb hg hat))
       go_roundg k1
       case measure => have := HK1.out; omega
       case rel => exact ⟨(y382), (wrap64 (x6_1 + 1)), (by first | rfl | (simp; done) | (simp [*]; done)), H', ⟨by have := HK1.out; omega⟩, ⟨by (with_reducible repeat (first | apply Kd.R_alloc | apply Kd.R_drewN | apply Kd.R_drew)); exact HO384.out⟩, ⟨by exact hs_ HB.out⟩⟩
      rw [if_neg c9] at H
      exact absurd H (by simp)
     replace c8 := Bool.eq_false_iff.mpr c8
     subst c8
     rw [if_neg (show ¬ (false = true) by decide)] at H
     have H' := Aside0.mk H
     clear H
     have p379 : 0 ≤ (x6_1 : Int) := of_decide_eq_true (by with_reducible assumption)
     have q379 : x6_1 < (l0.length : Int) := of_decide_eq_true (by with_reducible assumption)
     obtain ⟨ad379, e379, hx379_0, hx379_1⟩ := at_T83 HR0.out x6_1 p379 q379
     cases e379
     replace hx379_0 := cl_ HB.out hx379_0
     replace hx379_1 := cl_ HB.out hx379_1
     replace p379 := eq_true p379
     replace q379 := eq_true q379
     go_wp2_with (first | ((with_reducible refine gate_callee (f := 82) rfl ?_); refine gl_ (some 20) Tryd.func82 #[.slice A1 l1.length c1, .string ((rd_T83 l0 x6_1).f0)] ?_; (with_reducible refine (spec_l5Has.calls k1 _ _ l1 ((rd_T83 l0 x6_1).f0) false _ ?side1 ?side2 A7.out).mono ?_); (case side1 => exact cp_ ((Kd.C_below HR1.out HB.out))); (case side2 => exact HC1.out); rintro e w' ⟨rfl, ⟨nd, rfl⟩⟩; refine ⟨_, rfl, ?_⟩))
     go_roundg k1
     case measure => have := HK1.out; omega
     case rel => exact ⟨(x5_1), (wrap64 (x6_1 + 1)), (by first | rfl | (simp; done) | (simp [*]; done)), H', ⟨by have := HK1.out; omega⟩, ⟨by (with_reducible repeat (first | apply Kd.R_alloc | apply Kd.R_drewN | apply Kd.R_drew)); exact HO_5.out⟩, ⟨by exact hs_ HB.out⟩⟩
    rw [if_neg c6] at H
    exact absurd H (by simp)
   rw [if_neg c5] at H
   have c5b0 : decide (x6_1 < (l0.length : Int)) = false := decide_eq_false c5
   clear c5
   obtain rfl := Option.some.inj H
   go_wp2
   go_ret
   exact ⟨_, by first | rfl | (simp [errW_none, errW_some] <;> rfl) | (simp [*, errW_none, errW_some] <;> rfl), by (with_reducible repeat (first | apply Kd.R_alloc | apply Kd.R_drewN | apply Kd.R_drew)); exact HO_5.out, by exact hs_ HB.out⟩
def spec_KeyOf.f (k : Nat) (l0_0 : List (S83)) (a0_1 : Int) (a0_2 : Int) (a0_3 : ByteArray) (l1 : List ByteArray) : Option ((List (S83))) := (spec_Project.f k l0_0 l1).bind fun t386 => (some t386)
theorem spec_KeyOf.mono : ∀ a0 a1 a2 a3 a4 k, LeO (spec_KeyOf.f k a0 a1 a2 a3 a4) (spec_KeyOf.f (k + 1) a0 a1 a2 a3 a4) := by
 intro a0 a1 a2 a3 a4 k
 unfold spec_KeyOf.f
 repeat' first | (with_reducible first | exact spec_Project.mono _ _ _ | exact LeO.refl _ | exact LeO.none _ | refine LeO.ite ?_ ?_ | refine LeO.bind ?_ (fun _ => ?_)) | exact spec_Project.mono _ _ _
theorem spec_KeyOf.calls (k : Nat) (A0_0 : Option Addr) (c0_0 : Nat) (l0_0 : List (S83)) (a0_1 : Int) (a0_2 : Int) (a0_3 : ByteArray) (A1 : Option Addr) (c1 : Nat) (l1 : List ByteArray) (r : List (S83)) (w : World) (hr0_0 : Kd.C k83 w A0_0 l0_0.length l0_0) (hc0_0 : l0_0.length ≤ c0_0) (hr1 : Kd.C Kd.string w A1 l1.length l1) (hc1 : l1.length ≤ c1) (h : spec_KeyOf.f k l0_0 a0_1 a0_2 a0_3 l1 = some r) :
  Calls Tryd.prog 46 #[.agg #[.slice A0_0 l0_0.length c0_0, .int .i64 a0_1, .int .i64 a0_2, .string a0_3], .slice A1 l1.length c1] w fun e w' => ∃ v0_ : Value, e = .returned (v0_) ∧ Kd.R k83 83 w' w.heap.size (fun _ => True) v0_ r ∧ Below w.heap.size w w' := by
 have hu37 := Tryd.underlying37
 have HR0_0 := Aside0.mk hr0_0
 have HC0_0 := Aside0.mk hc0_0
 clear hr0_0 hc0_0
 have HR1 := Aside0.mk hr1
 have HC1 := Aside0.mk hc1
 clear hr1 hc1
 have HB := Aside0.mk (Below.refl w.heap.size w)
 have H : ((spec_Project.f k l0_0 l1).bind fun t386 => (some t386)) = some r := h
 clear h
 replace H := Option.bind_eq_some_iff.mp H
 obtain ⟨t386, A30, H⟩ := H
 have A3 := Aside0.mk A30
 clear A30
 obtain rfl := Option.some.inj H
 go_enter Tryd.func46, Tryd.ntmps46
 go_wp2_with (first | ((with_reducible refine gd_ 2 rfl ?_); refine bv_ 2 #[.slice A0_0 l0_0.length c0_0, .int .i64 a0_1, .int .i64 a0_2, .string a0_3] 37 ?_; intro gb385 hg w4 hbox hb; have BK385 := Aside0.mk (hbox); have GW385 := Ge_.mk ((gw_ hg (hs_ HB.out))); replace HB := st_ HB hb; have GE385 := Ge_.mk GW385.out; clear hb hbox hg; obtain ⟨z5_0, z5_1, z5_2, z5_3, y5_0, y5_1, y5_2, y5_3⟩ := bc4_ BK385.out) | ((with_reducible refine gate_callee (f := 68) rfl ?_); refine gl_ (some 8) Tryd.func68 #[.slice A0_0 l0_0.length c0_0, .slice A1 l1.length c1] ?_; (with_reducible refine (spec_Project.calls k _ _ l0_0 _ _ l1 t386 _ ?side1 ?side2 ?side3 ?side4 A3.out).mono ?_); (case side1 => exact cp_ ((Kd.C_below HR0_0.out HB.out))); (case side2 => exact HC0_0.out); (case side3 => exact cp_ ((Kd.C_below HR1.out HB.out))); (case side4 => exact HC1.out); rintro e w6 ⟨v387, rfl, ho0, hb⟩; refine ⟨_, rfl, ?_⟩; have HO388 := Aside0.mk (Kd.R_lower ho0 (below_size (hs_ HB.out))); replace BK385 := bk2_ BK385 hb; replace HB := st_ HB hb; (try clear hb); (try clear hk); (try clear ho0)))
 go_ret
 exact ⟨_, by first | rfl | (simp [errW_none, errW_some] <;> rfl) | (simp [*, errW_none, errW_some] <;> rfl), by (with_reducible repeat (first | apply Kd.R_alloc | apply Kd.R_drewN | apply Kd.R_drew)); exact HO388.out, by exact hs_ HB.out⟩
theorem eqA83 (d : Nat) (w : World) (x0 y0 : ByteArray) (x1 y1 : ByteArray) :
  (Op.equalIn (d + 2) 83 (.agg #[.string x0, .string x1]) (.agg #[.string y0, .string y1])).run Tryd.prog w = .ok (x0.toList == y0.toList && (x1.toList == y1.toList)) w := by
 refine eqA_of Tryd.underlying83 (by kernel_rfl) ?_
 refine eqf_cons (by rfl) (by go_simp; rfl) (by go_simp; rfl) (by go_simp) ?_
 exact eqf_last (by rfl) (by go_simp; rfl) (by go_simp; rfl) (by go_simp)
end Go.Proofs.YtanfohlpkppeiaaDoor.Print
end
section
namespace Go.Proofs.YtanfohlpkppeiaaDoor.Print
open Go.RowKit Go.Proofs.YtanfohlpkppeiaaDoorV.PrintWords Go.Proofs.YtanfohlpkppeiaaDoorV.PrintLast Go.Proofs.YtanfohlpkppeiaaDoorV.PrintMore
attribute [local go_sem] max2_int min2_int max_two min_two max_three min_three max_four min_four
set_option linter.unusedVariables false
set_option linter.unusedSimpArgs false

attribute [local go_sem high] eqA83
set_option maxHeartbeats 8000000
set_option maxRecDepth 100000
def spec_SameSet.l0 : Nat → List (S83) → List (S83) → Int → Option (Bool)
 | 0, _, _, _ => none
 | k + 1, x0, x1, x5 => if x5 < (x0.length : Int) then (if 0 ≤ x5 then (if x5 < (x1.length : Int) then (if (!((((rd_T83 x0 x5).f0).toList) == (((rd_T83 x1 x5).f0).toList)) || (!((((rd_T83 x0 x5).f1).toList) == (((rd_T83 x1 x5).f1).toList)))) = true then (some false) else (spec_SameSet.l0 k x0 x1 (wrap64 (x5 + 1)))) else (none)) else (none)) else (some true)
def spec_SameSet.f (k : Nat) (l0 : List (S83)) (l1 : List (S83)) : Option (Bool) := if (l0.length : Int) = (l1.length : Int) then (spec_SameSet.l0 k l0 l1 0) else (some false)
theorem spec_SameSet.mono_l : ∀ k, (∀ y0 y1 y2, LeO (spec_SameSet.l0 k y0 y1 y2) (spec_SameSet.l0 (k + 1) y0 y1 y2))
 | 0 => fun _ _ _ r h => by simp [spec_SameSet.l0] at h
 | k + 1 => by
  have ih0 := spec_SameSet.mono_l k
  intro y0 y1 y2
  unfold spec_SameSet.l0
  repeat' first
  | (with_reducible exact ih0 _ _ _)
  | (with_reducible exact LeO.refl _)
  | (with_reducible exact LeO.none _)
  | (with_reducible refine LeO.ite ?_ ?_)
  | (with_reducible refine LeO.bind ?_ (fun _ => ?_))
  | exact ih0 _ _ _
theorem spec_SameSet.mono : ∀ a0 a1 k, LeO (spec_SameSet.f k a0 a1) (spec_SameSet.f (k + 1) a0 a1) := by
 intro a0 a1 k
 have ih0 := spec_SameSet.mono_l k
 unfold spec_SameSet.f
 repeat' first | (with_reducible first | exact ih0 _ _ _ | exact LeO.refl _ | exact LeO.none _ | refine LeO.ite ?_ ?_ | refine LeO.bind ?_ (fun _ => ?_)) | exact ih0 _ _ _
theorem spec_SameSet.calls (k : Nat) (A0 : Option Addr) (c0 : Nat) (l0 : List (S83)) (A1 : Option Addr) (c1 : Nat) (l1 : List (S83)) (r : Bool) (w : World) (hr0 : Kd.C k83 w A0 l0.length l0) (hc0 : l0.length ≤ c0) (hr1 : Kd.C k83 w A1 l1.length l1) (hc1 : l1.length ≤ c1) (h : spec_SameSet.f k l0 l1 = some r) :
  Calls Tryd.prog 69 #[.slice A0 l0.length c0, .slice A1 l1.length c1] w fun e w' => e = .returned (.bool r) ∧ Drawn0 w w' := by
 have hu83 := Tryd.underlying83
 have HR0 := Aside0.mk hr0
 have HC0 := Aside0.mk hc0
 clear hr0 hc0
 have HR1 := Aside0.mk hr1
 have HC1 := Aside0.mk hc1
 clear hr1 hc1
 have H : (if (l0.length : Int) = (l1.length : Int) then (spec_SameSet.l0 k l0 l1 0) else (some false)) = some r := h
 clear h
 by_cases c3 : (l0.length : Int) = (l1.length : Int)
 ·
  rw [if_pos c3] at H
  have c3b0 : ((l0.length : Int) == (l1.length : Int)) = true := beq_iff_eq.mpr c3
  have c3b1 : ((l0.length : Int) != (l1.length : Int)) = false := bne_eq_false_iff_eq.mpr c3
  have c3b2 : (l0.length == l1.length) = true := by first | simpa using c3 | (simp at c3 ⊢; omega)
  clear c3
  have H' := Aside0.mk H
  clear H
  go_enter Tryd.func69, Tryd.ntmps69
  go_wp2
  repeat (go_quiet (fail); try go_wp2)
  go_loopg [5] k (fun kq v5 w' => ∃ (x5_1 : Int), v5 = .int .i64 x5_1 ∧ Aside0 (spec_SameSet.l0 kq l0 l1 x5_1 = some r) ∧ Aside0 (kq ≤ k) ∧ Drawn0 w w')
  case atStart => exact ⟨(0), (by first | rfl | (simp; done) | (simp [*]; done)), H', ⟨Nat.le_refl _⟩, by repeat (first | exact Drawn0.refl _ | apply Drawn0.step)⟩
  case round =>
   clear H'
   try clear c1
   try clear p2
   try clear c3
   try clear c3b0
   try clear c3b1
   try clear c3b2
   obtain ⟨x5_1, rfl, HA, HK1, ⟨m1, rfl⟩⟩ := hrel
   cases gk with
   | zero => exact absurd HA.out (by simp [spec_SameSet.l0])
   | succ k1 =>
    have H := HA.out
    clear HA
    simp only [spec_SameSet.l0] at H
    by_cases c4 : x5_1 < (l0.length : Int)
    ·
     rw [if_pos c4] at H
     have c4b0 := decide_eq_true c4
     clear c4
     by_cases c5 : 0 ≤ x5_1
     ·
      rw [if_pos c5] at H
      have c5b0 := decide_eq_true c5
      clear c5
      by_cases c6 : x5_1 < (l1.length : Int)
      ·
       rw [if_pos c6] at H
       have c6b0 := decide_eq_true c6
       clear c6
       by_cases c7 : (!((((rd_T83 l0 x5_1).f0).toList) == (((rd_T83 l1 x5_1).f0).toList)) || (!((((rd_T83 l0 x5_1).f1).toList) == (((rd_T83 l1 x5_1).f1).toList)))) = true
       ·
        rw [if_pos c7] at H
        have c7b0 : (!((((rd_T83 l0 x5_1).f0).toList) == (((rd_T83 l1 x5_1).f0).toList)) || (!((((rd_T83 l0 x5_1).f1).toList) == (((rd_T83 l1 x5_1).f1).toList)))) = true := c7
        clear c7
        obtain rfl := Option.some.inj H
        have p389 : 0 ≤ (x5_1 : Int) := of_decide_eq_true (by with_reducible assumption)
        have q389 : x5_1 < (l0.length : Int) := of_decide_eq_true (by with_reducible assumption)
        obtain ⟨ad389, e389, hx389_0, hx389_1⟩ := at_T83 HR0.out x5_1 p389 q389
        cases e389
        replace p389 := eq_true p389
        replace q389 := eq_true q389
        have p390 : 0 ≤ (x5_1 : Int) := of_decide_eq_true (by with_reducible assumption)
        have q390 : x5_1 < (l1.length : Int) := of_decide_eq_true (by with_reducible assumption)
        obtain ⟨ad390, e390, hx390_0, hx390_1⟩ := at_T83 HR1.out x5_1 p390 q390
        cases e390
        replace p390 := eq_true p390
        replace q390 := eq_true q390
        go_wp2
        repeat (go_quiet (fail); try go_wp2)
        go_ret
        exact ⟨by first | rfl | (simp; done) | (simp [*]; done), by repeat (first | exact Drawn0.refl _ | apply Drawn0.step)⟩
       rw [if_neg c7] at H
       have c7b0 : (!((((rd_T83 l0 x5_1).f0).toList) == (((rd_T83 l1 x5_1).f0).toList)) || (!((((rd_T83 l0 x5_1).f1).toList) == (((rd_T83 l1 x5_1).f1).toList)))) = false := by simpa using c7
       clear c7
       have H' := Aside0.mk H
       clear H
       have p389 : 0 ≤ (x5_1 : Int) := of_decide_eq_true (by with_reducible assumption)
       have q389 : x5_1 < (l0.length : Int) := of_decide_eq_true (by with_reducible assumption)
       obtain ⟨ad389, e389, hx389_0, hx389_1⟩ := at_T83 HR0.out x5_1 p389 q389
       cases e389
       replace p389 := eq_true p389
       replace q389 := eq_true q389
       have p390 : 0 ≤ (x5_1 : Int) := of_decide_eq_true (by with_reducible assumption)
       have q390 : x5_1 < (l1.length : Int) := of_decide_eq_true (by with_reducible assumption)
       obtain ⟨ad390, e390, hx390_0, hx390_1⟩ := at_T83 HR1.out x5_1 p390 q390
       cases e390
       replace p390 := eq_true p390
       replace q390 := eq_true q390
       go_wp2
       repeat (go_quiet (fail); try go_wp2)
       go_roundg k1
       case measure => have := HK1.out; omega
       case rel => exact ⟨(wrap64 (x5_1 + 1)), (by first | rfl | (simp; done) | (simp [*]; done)), H', ⟨by have := HK1.out; omega⟩, by repeat (first | exact Drawn0.refl _ | apply Drawn0.step)⟩
      rw [if_neg c6] at H
      exact absurd H (by simp)
     rw [if_neg c5] at H
     exact absurd H (by simp)
    rw [if_neg c4] at H
    have c4b0 : decide (x5_1 < (l0.length : Int)) = false := decide_eq_false c4
    clear c4
    obtain rfl := Option.some.inj H
    go_wp2
    repeat (go_quiet (fail); try go_wp2)
    go_ret
    exact ⟨by first | rfl | (simp; done) | (simp [*]; done), by repeat (first | exact Drawn0.refl _ | apply Drawn0.step)⟩
 rw [if_neg c3] at H
 have c3b0 : ((l0.length : Int) == (l1.length : Int)) = false := beq_eq_false_iff_ne.mpr c3
 have c3b1 : ((l0.length : Int) != (l1.length : Int)) = true := bne_iff_ne.mpr c3
 have c3b2 : (l0.length == l1.length) = false := by first | simpa using c3 | (simp at c3 ⊢; omega)
 obtain rfl := Option.some.inj H
 go_enter Tryd.func69, Tryd.ntmps69
 go_wp2
 repeat (go_quiet (fail); try go_wp2)
 go_ret
 exact ⟨by first | rfl | (simp; done) | (simp [*]; done), by repeat (first | exact Drawn0.refl _ | apply Drawn0.step)⟩
end Go.Proofs.YtanfohlpkppeiaaDoor.Print
end
section
namespace Go.Proofs.YtanfohlpkppeiaaDoor.Print
open Go.RowKit Go.Proofs.YtanfohlpkppeiaaDoorV.PrintWords Go.Proofs.YtanfohlpkppeiaaDoorV.PrintLast Go.Proofs.YtanfohlpkppeiaaDoorV.PrintMore
attribute [local go_sem] max2_int min2_int max_two min_two max_three min_three max_four min_four
set_option linter.unusedVariables false
set_option linter.unusedSimpArgs false
set_option maxHeartbeats 8000000
set_option maxRecDepth 100000
def spec_Together.f (k : Nat) (l0_0 : List (S83)) (a0_1 : Int) (a0_2 : Int) (a0_3 : ByteArray) (l1_0 : List (S83)) (a1_1 : Int) (a1_2 : Int) (a1_3 : ByteArray) (l2 : List ByteArray) : Option (Bool) := (spec_KeyOf.f k l0_0 a0_1 a0_2 a0_3 l2).bind fun t393 => ((spec_KeyOf.f k l1_0 a1_1 a1_2 a1_3 l2).bind fun t396 => ((spec_SameSet.f k t393 t396).bind fun t399 => (some t399)))
theorem spec_Together.mono : ∀ a0 a1 a2 a3 a4 a5 a6 a7 a8 k, LeO (spec_Together.f k a0 a1 a2 a3 a4 a5 a6 a7 a8) (spec_Together.f (k + 1) a0 a1 a2 a3 a4 a5 a6 a7 a8) := by
 intro a0 a1 a2 a3 a4 a5 a6 a7 a8 k
 unfold spec_Together.f
 repeat' first | (with_reducible first | exact spec_KeyOf.mono _ _ _ _ _ _ | exact spec_SameSet.mono _ _ _ | exact LeO.refl _ | exact LeO.none _ | refine LeO.ite ?_ ?_ | refine LeO.bind ?_ (fun _ => ?_)) | exact spec_KeyOf.mono _ _ _ _ _ _ | exact spec_SameSet.mono _ _ _
def spec_Together.T1 : Bool × List (List Nat × List Nat) := (true, [([], []), ([], []), ([0, 1], [0, 1]), ([], []), ([], []), ([3, 4, 2], [3, 4]), ([2, 5, 5], [2, 5]), ([6, 6, 0, 1, 2, 3, 4, 5, 6], [6])])
def spec_Together.B1 : List Nat := [0, 0, 3, 0, 0, 31, 63, 127]
theorem spec_Together.tab1 : rtab .any (opsOf Tryd.f47 1) = spec_Together.T1 := by kernel_rfl
theorem spec_Together.bits1 : waitsOk spec_Together.T1.2 spec_Together.B1 = true := by kernel_rfl
theorem spec_Together.calls (k : Nat) (A0_0 : Option Addr) (c0_0 : Nat) (l0_0 : List (S83)) (a0_1 : Int) (a0_2 : Int) (a0_3 : ByteArray) (A1_0 : Option Addr) (c1_0 : Nat) (l1_0 : List (S83)) (a1_1 : Int) (a1_2 : Int) (a1_3 : ByteArray) (A2 : Option Addr) (c2 : Nat) (l2 : List ByteArray) (r : Bool) (w : World) (hr0_0 : Kd.C k83 w A0_0 l0_0.length l0_0) (hc0_0 : l0_0.length ≤ c0_0) (hr1_0 : Kd.C k83 w A1_0 l1_0.length l1_0) (hc1_0 : l1_0.length ≤ c1_0) (hr2 : Kd.C Kd.string w A2 l2.length l2) (hc2 : l2.length ≤ c2) (h : spec_Together.f k l0_0 a0_1 a0_2 a0_3 l1_0 a1_1 a1_2 a1_3 l2 = some r) :
  Calls Tryd.prog 47 #[.agg #[.slice A0_0 l0_0.length c0_0, .int .i64 a0_1, .int .i64 a0_2, .string a0_3], .agg #[.slice A1_0 l1_0.length c1_0, .int .i64 a1_1, .int .i64 a1_2, .string a1_3], .slice A2 l2.length c2] w fun e w' => e = .returned (.bool r) ∧ Below w.heap.size w w' := by
 have hu37 := Tryd.underlying37
 have HR0_0 := Aside0.mk hr0_0
 have HC0_0 := Aside0.mk hc0_0
 clear hr0_0 hc0_0
 have HR1_0 := Aside0.mk hr1_0
 have HC1_0 := Aside0.mk hc1_0
 clear hr1_0 hc1_0
 have HR2 := Aside0.mk hr2
 have HC2 := Aside0.mk hc2
 clear hr2 hc2
 have HB := Aside0.mk (Below.refl w.heap.size w)
 have H : ((spec_KeyOf.f k l0_0 a0_1 a0_2 a0_3 l2).bind fun t393 => ((spec_KeyOf.f k l1_0 a1_1 a1_2 a1_3 l2).bind fun t396 => ((spec_SameSet.f k t393 t396).bind fun t399 => (some t399)))) = some r := h
 clear h
 replace H := Option.bind_eq_some_iff.mp H
 obtain ⟨t393, A40, H⟩ := H
 have A4 := Aside0.mk A40
 clear A40
 replace H := Option.bind_eq_some_iff.mp H
 obtain ⟨t396, A50, H⟩ := H
 have A5 := Aside0.mk A50
 clear A50
 replace H := Option.bind_eq_some_iff.mp H
 obtain ⟨t399, A60, H⟩ := H
 have A6 := Aside0.mk A60
 clear A60
 obtain rfl := Option.some.inj H
 go_enter Tryd.func47, Tryd.ntmps47
 try go_wp2_with (first | ((with_reducible refine gd_ 3 rfl ?_); refine bv_ 3 #[.slice A0_0 l0_0.length c0_0, .int .i64 a0_1, .int .i64 a0_2, .string a0_3] 37 ?_; intro gb391 hg w7 hbox hb; have BK391 := Aside0.mk (hbox); have GW391 := Ge_.mk ((gw_ hg (hs_ HB.out))); replace HB := st_ HB hb; have GE391 := Ge_.mk GW391.out; clear hb hbox hg) | ((with_reducible refine gd_ 4 rfl ?_); refine bv_ 4 #[.slice A1_0 l1_0.length c1_0, .int .i64 a1_1, .int .i64 a1_2, .string a1_3] 37 ?_; intro gb392 hg w8 hbox hb; have BK392 := Aside0.mk (hbox); have GW392 := Ge_.mk ((gw_ hg (hs_ HB.out))); replace HB := st_ HB hb; have GE392 := Ge_.mk GW392.out; have NB391_392 := nk_ BK391 hg; replace BK391 := bk2_ BK391 hb; have NB392_391 := ns_ NB391_392; clear hb hbox hg))
 replace BK391 := Aside0.mk (blk_drew BK391.out)
 replace BK392 := Aside0.mk (blk_drew BK392.out)
 replace HB := Aside0.mk (bd_ HB.out)
 refine start_ (n := 8) (S := fun w' => w'.cell? ⟨gb391, 0, none⟩ = some (.slice A0_0 l0_0.length c0_0) ∧ w'.cell? ⟨gb391, 1, none⟩ = some (.int .i64 a0_1) ∧ w'.cell? ⟨gb391, 2, none⟩ = some (.int .i64 a0_2) ∧ w'.cell? ⟨gb391, 3, none⟩ = some (.string a0_3) ∧ w'.cell? ⟨gb392, 0, none⟩ = some (.slice A1_0 l1_0.length c1_0) ∧ w'.cell? ⟨gb392, 1, none⟩ = some (.int .i64 a1_1) ∧ w'.cell? ⟨gb392, 2, none⟩ = some (.int .i64 a1_2) ∧ w'.cell? ⟨gb392, 3, none⟩ = some (.string a1_3)) (ds := []) (b_ 0 8) (by kernel_rfl) rfl rfl ⟨bx_ BK391.out 0, bx_ BK391.out 1, bx_ BK391.out 2, bx_ BK391.out 3, bx_ BK392.out 0, bx_ BK392.out 1, bx_ BK392.out 2, bx_ BK392.out 3⟩ (fun hHeld => ?_); refine with_tabW spec_Together.tab1 spec_Together.bits1 (fun HT_ HW_ => ?_)
 generalize w8.drew = w9 at BK391 BK392 HB hHeld ⊢
 refine pw_ 1 8 #[f_,t_,f_,f_,f_,f_,f_,f_] rfl rfl HT_.out ?_
 refine pw_ 4 11 #[f_,t_,f_,f_,t_,f_,f_,f_] rfl rfl HT_.out ?_
 refine take_ (i := 0) (N := some 7) (v := ?_) (a' := ?_) #[t_,t_,f_,f_,t_,f_,f_,f_] rfl rfl (take_ofW HT_.out HW_.out (by kernel_rfl)) (fun _ _ _ h => h) (Or.inl ⟨by rfl, ?_⟩) hHeld ?_ ?_
 rotate_left
 ·
  rintro w' ⟨s0, s1, s2, s3, s4, s5, s6, s7⟩
  go_simp
  with_reducible rfl
 rotate_left
 ·
  simp only [fr_]
  rfl
 refine take_ (i := 3) (N := some 10) (v := ?_) (a' := ?_) #[t_,t_,f_,t_,t_,f_,f_,f_] rfl rfl (take_ofW HT_.out HW_.out (by kernel_rfl)) (fun _ _ _ h => h) (Or.inl ⟨by rfl, ?_⟩) hHeld ?_ ?_
 rotate_left
 ·
  rintro w' ⟨s0, s1, s2, s3, s4, s5, s6, s7⟩
  go_simp
  with_reducible rfl
 rotate_left
 ·
  simp only [fr_]
  rfl
 refine one_ (i := 2) (N := some 9) (b_ 5 3) rfl rfl (one_of HT_.out (by kernel_rfl)) (by decide) (fun K hK => ?_)
 refine gs_ Tryd.func46 #[.agg #[.slice A0_0 l0_0.length c0_0, .int .i64 a0_1, .int .i64 a0_2, .string a0_3], .slice A2 l2.length c2] ?_
 with_reducible refine (spec_KeyOf.calls k _ _ l0_0 a0_1 a0_2 a0_3 _ _ l2 t393 _ ?side1 ?side2 ?side3 ?side4 A4.out).mono ?_
 (case side1 => exact cp_ ((Kd.C_below HR0_0.out HB.out)))
 (case side2 => exact HC0_0.out)
 (case side3 => exact cp_ ((Kd.C_below HR2.out HB.out)))
 (case side4 => exact HC2.out)
 rintro e w10 ⟨v394, rfl, ho0, hb⟩
 refine ⟨_, rfl, ?_⟩
 have HO395 := Aside0.mk (Kd.R_lower ho0 (below_size (hs_ HB.out)))
 replace BK391 := bk2_ BK391 hb
 replace BK392 := bk2_ BK392 hb
 replace HB := st_ HB hb
 (try clear hb)
 (try clear hk)
 (try clear ho0)
 refine hK.out _ _ (f4_ BK391.out (e4_ BK392.out)) (fun hHeld => ?_)
 clear hK K
 refine norm_ (a' := ?_) ?_ ?_
 rotate_left
 ·
  show Act.put _ (some 9) _ = _
  simp only [fr_]
  rfl
 refine one_ (i := 5) (N := some 12) (b_ 6 2) rfl rfl (one_of HT_.out (by kernel_rfl)) (by decide) (fun K hK => ?_)
 refine gs_ Tryd.func46 #[.agg #[.slice A1_0 l1_0.length c1_0, .int .i64 a1_1, .int .i64 a1_2, .string a1_3], .slice A2 l2.length c2] ?_
 with_reducible refine (spec_KeyOf.calls k _ _ l1_0 a1_1 a1_2 a1_3 _ _ l2 t396 _ ?side1 ?side2 ?side3 ?side4 A5.out).mono ?_
 (case side1 => exact cp_ ((Kd.C_below HR1_0.out HB.out)))
 (case side2 => exact HC1_0.out)
 (case side3 => exact cp_ ((Kd.C_below HR2.out HB.out)))
 (case side4 => exact HC2.out)
 rintro e w11 ⟨v397, rfl, ho0, hb⟩
 refine ⟨_, rfl, ?_⟩
 have HO398 := Aside0.mk (Kd.R_lower (Kd.R_new' ho0 (Kd.R_lt (rp_ HO395.out))) (below_size (hs_ HB.out)))
 replace HO395 := Aside0.mk (Kd.R_elder' (rp_ HO395.out) (Kd.R_base ho0) hb)
 replace BK391 := bk2_ BK391 hb
 replace BK392 := bk2_ BK392 hb
 replace HB := st_ HB hb
 (try clear hb)
 (try clear hk)
 (try clear ho0)
 obtain ⟨Ao12, co12, eo12⟩ := Kd.R_slice HO395.out
 (first | subst eo12 | (obtain ⟨rfl, rfl⟩ := si_ eo12))
 obtain ⟨Ao13, co13, eo13⟩ := Kd.R_slice HO398.out
 (first | subst eo13 | (obtain ⟨rfl, rfl⟩ := si_ eo13))
 refine hK.out _ _ (f4_ BK391.out (e4_ BK392.out)) (fun hHeld => ?_)
 clear hK K
 refine norm_ (a' := ?_) ?_ ?_
 rotate_left
 ·
  show Act.put _ (some 12) _ = _
  simp only [fr_]
  rfl
 refine one_ (i := 6) (N := some 13) (b_ 7 1) rfl rfl (one_of HT_.out (by kernel_rfl)) (by decide) (fun K hK => ?_)
 refine gs_ Tryd.func69 #[.slice Ao12 t393.length co12, .slice Ao13 t396.length co13] ?_
 with_reducible refine (spec_SameSet.calls k _ _ t393 _ _ t396 t399 _ ?side1 ?side2 ?side3 ?side4 A6.out).mono ?_
 (case side1 => exact cp_ ((Kd.R_reads' HO395.out).2.2))
 (case side2 => exact (Kd.R_reads' HO395.out).2.1)
 (case side3 => exact cp_ ((Kd.R_reads' HO398.out).2.2))
 (case side4 => exact (Kd.R_reads' HO398.out).2.1)
 rintro e w' ⟨rfl, ⟨nd, rfl⟩⟩
 refine ⟨_, rfl, ?_⟩
 refine hK.out _ _ (f4_ BK391.out (e4_ BK392.out)) (fun hHeld => ?_)
 clear hK K
 refine norm_ (a' := ?_) ?_ ?_
 rotate_left
 ·
  show Act.put _ (some 13) _ = _
  simp only [fr_]
  rfl
 refine pw_ 7 6 (b_ 8 0) rfl rfl HT_.out ?_
 refine done_ (done_of HT_.out (by kernel_rfl)) ?_
 try go_wp2
 go_ret
 exact an_ (by exact hs_ HB.out)
def spec_l4Copy.f (l0_0 : List (S83)) (a0_1 : Int) (a0_2 : Int) (a0_3 : ByteArray) : Option ((List (S83)) × Int × Int × ByteArray) := (some (([] : List (S83)) : List (S83))).bind fun y402 => (if y402.length + l0_0.length < 4398046511104 then (some ((y402 ++ l0_0), a0_1, a0_2, a0_3)) else (none))
theorem spec_l4Copy.calls (A0_0 : Option Addr) (c0_0 : Nat) (l0_0 : List (S83)) (a0_1 : Int) (a0_2 : Int) (a0_3 : ByteArray) (r1 : List (S83)) (r2 : Int) (r3 : Int) (r4 : ByteArray) (w : World) (hr0_0 : Kd.C k83 w A0_0 l0_0.length l0_0) (hc0_0 : l0_0.length ≤ c0_0) (h : spec_l4Copy.f l0_0 a0_1 a0_2 a0_3 = some (r1, r2, r3, r4)) :
  Calls Tryd.prog 71 #[.agg #[.slice A0_0 l0_0.length c0_0, .int .i64 a0_1, .int .i64 a0_2, .string a0_3]] w fun e w' => ∃ v0_ : Value, e = .returned (.agg #[v0_, .int .i64 r2, .int .i64 r3, .string r4]) ∧ Kd.R k83 83 w' w.heap.size (fun _ => True) v0_ r1 ∧ Below w.heap.size w w' := by
 have hu37 := Tryd.underlying37
 have HR0_0 := Aside0.mk hr0_0
 have HC0_0 := Aside0.mk hc0_0
 clear hr0_0 hc0_0
 have HB := Aside0.mk (Below.refl w.heap.size w)
 have H : ((some (([] : List (S83)) : List (S83))).bind fun y402 => (if y402.length + l0_0.length < 4398046511104 then (some ((y402 ++ l0_0), a0_1, a0_2, a0_3)) else (none))) = some (r1, r2, r3, r4) := h
 clear h
 obtain ⟨y402, hy402⟩ : ∃ y_ : List (S83), y_ = (([] : List (S83))) := ⟨_, rfl⟩
 replace H : (if y402.length + l0_0.length < 4398046511104 then (some ((y402 ++ l0_0), a0_1, a0_2, a0_3)) else (none)) = some (r1, r2, r3, r4) := by first | (rw [hy402]; with_reducible exact H) | (have H2_ := (Option.bind_some _ _).symm.trans H; rw [hy402]; with_reducible exact H2_) | (have H2_ := (Option.bind_some _ _).symm.trans H; with_reducible exact H2_) | with_reducible exact H | (rw [hy402]; exact H) | exact H
 have Ny402 := Aside0.mk hy402
 clear hy402
 by_cases c2 : y402.length + l0_0.length < 4398046511104
 ·
  rw [if_pos c2] at H
  have LMc2 := Aside0.mk c2
  clear c2
  obtain ⟨y405, hy405⟩ : ∃ y_ : List (S83), y_ = (y402 ++ l0_0) := ⟨_, rfl⟩
  replace H : (some (y405, a0_1, a0_2, a0_3)) = some (r1, r2, r3, r4) := by first | (rw [hy405]; with_reducible exact H) | (have H2_ := (Option.bind_some _ _).symm.trans H; rw [hy405]; with_reducible exact H2_) | (have H2_ := (Option.bind_some _ _).symm.trans H; with_reducible exact H2_) | with_reducible exact H | (rw [hy405]; exact H) | exact H
  have Ny405 := Aside0.mk hy405
  clear hy405
  simp only [Option.some.injEq, Prod.mk.injEq] at H
  obtain ⟨rfl, rfl, rfl, rfl⟩ := H
  go_enter Tryd.func71, Tryd.ntmps71
  go_wp2_with (first | ((with_reducible refine gd_ 1 rfl ?_); refine bv_ 1 #[.slice A0_0 l0_0.length c0_0, .int .i64 a0_1, .int .i64 a0_2, .string a0_3] 37 ?_; intro gb400 hg w3 hbox hb; have BK400 := Aside0.mk (hbox); have GW400 := Ge_.mk ((gw_ hg (hs_ HB.out))); replace HB := st_ HB hb; have GE400 := Ge_.mk GW400.out; clear hb hbox hg) | ((with_reducible refine gd_ 2 rfl ?_); refine bv_ 2 #[.slice none 0 0, .int .i64 0, .int .i64 0, .string (⟨#[]⟩ : ByteArray)] 37 ?_; intro gb401 hg w4 hbox hb; have BK401 := Aside0.mk (hbox); have GW401 := Ge_.mk ((gw_ hg (hs_ HB.out))); replace HB := st_ HB hb; have GE401 := Ge_.mk GW401.out; have NB400_401 := nk_ BK400 hg; replace BK400 := bk2_ BK400 hb; have NB401_400 := ns_ NB400_401; clear hb hbox hg) | ((with_reducible refine gd_ 3 rfl ?_); refine Kd.R_lit k83 _ 83 ?hg (N := 3) ?hd (xs := ([] : List (S83))) (inner := []) (ok := fun _ => True) (okp := fun _ => True) ?hr ?hp (fun _ hk => hk) trivial (Below.refl _ _) (Nat.le_refl _) (by simp) ?_; (case hd => rfl); (case hg => rfl); (case hr => first | (go_simp; done) | (go_simp; rfl)); (case hp => exact (Reps.none _ _)); intro v403 w5 ho6 hb hg_ hnew_; clear hg_ hnew_; (first | rw [← Ny402.out] at ho6 | (simp only [Int.reduceToNat] at ho6; rw [← Ny402.out] at ho6)); have HO404 := Aside0.mk (Kd.R_lower ho6 (below_size (hs_ HB.out))); replace BK400 := bk2_ BK400 hb; replace BK401 := bk2_ BK401 hb; replace HB := st_ HB hb; clear hb ho6; have hnb7 := NB400_401.out; have hnc7 := NB401_400.out; obtain ⟨z8_0, z8_1, z8_2, z8_3, y8_0, y8_1, y8_2, y8_3⟩ := bc4_ BK400.out) | ((with_reducible refine gate_builtin (b := .append) (xs := #[.tmp 3, .tmp 5]) rfl ?_); at_builtin; refine Kd.R_append_rows k83 (w0 := w) w.heap.size rfl (.tmp 3) (.tmp 5) 30 83 (.agg #[(.string ⟨#[]⟩), (.string ⟨#[]⟩)]) 32 rfl Tryd.underlying30 info83 rfl (by decide) (by omega) v403 y402 l0_0 _ _ _ (fun _ => True) (fun _ => False) rfl rfl ?aO ?aR (fun _ _ h => h) (fun _ h => h.elim) ?aF ?aB ?aS ?aL ?_; (case aR => repeat (first | exact (Kd.C_below HR0_0.out HB.out) | (with_reducible first | refine ca_ ?_ _ | refine cn_ ?_ _ | refine cd_ ?_))); (case aB => exact (hs_ HB.out)); (case aF => exact (fun _ _ => trivial)); (case aO => exact (rp_ HO404.out)); (case aS => exact (below_size (hs_ HB.out))); (case aL => have := LMc2.out; omega); intro v406 w9 ho hb hg hat; rw [← Ny405.out] at ho; replace BK400 := Aside0.mk (blk_grown (bq_ BK400.out) hg (Kd.R_ne HO404.out BK400.out (by decide))); replace BK401 := Aside0.mk (blk_grown (bq_ BK401.out) hg (Kd.R_ne HO404.out BK401.out (by decide))); replace HB := Aside0.mk (hb); have HO407 := Aside0.mk (ho); clear HO404; clear ho hb hg hat; obtain ⟨Ao10, co10, eo10⟩ := Kd.R_slice HO407.out; subst eo10; obtain ⟨z11_0, z11_1, z11_2, z11_3, y11_0, y11_1, y11_2, y11_3⟩ := bc4_ BK400.out; obtain ⟨z12_0, z12_1, z12_2, z12_3, y12_0, y12_1, y12_2, y12_3⟩ := bc4_ BK401.out))
  refine bodyPost_ret (results_cell_row rfl _ _ gb401 37 #[.slice Ao10 y405.length co10, .int .i64 a0_1, .int .i64 a0_2, .string a0_3] (0, 0) _ rfl (bp_ BK401.out) Tryd.underlying37 rfl (by kernel_rfl)) rfl ?_
  exact ⟨_, by first | rfl | (simp [errW_none, errW_some] <;> rfl) | (simp [*, errW_none, errW_some] <;> rfl), by (with_reducible repeat (first | apply Kd.R_alloc | apply Kd.R_drewN | apply Kd.R_drew)); exact Kd.R_mono (rf_ gb401 (Kd.R_far (p := ⟨gb400, 0, none⟩) (Kd.R_types (Kd.R_types HO407.out BK400.out (by decide)) BK401.out (by decide)) (fun _ hk => hk.1.2) (.slice Ao10 y405.length co10)) (fun _ hk => hk.2)) (fun _ hk => trivial), by exact hs_ HB.out⟩
 rw [if_neg c2] at H
 exact absurd H (by simp)
end Go.Proofs.YtanfohlpkppeiaaDoor.Print
end
