import Derived.Test.YtanfohlpkppeiaaGreatProg
import Derived.Below
import Derived.Deep.Draws
import Derived.Deep.AppendLies
import Derived.Maps.AppendAt
import Derived.OwnWalk
import Derived.Laws.BytesArg
import Derived.Laws.MakeOwn
import Derived.Laws.OwnMore
import Derived.Deep.OwnRows
import Derived.Tactics
import Derived.Lib.ConvBytes
import Derived.Laws.Slices
import Derived.WalkKit
import Derived.KernelRfl
import Derived.RowKit3
import Derived.Deep.LoopGhost
import Derived.Deep.QuietTactic
import Derived.BigQuiet
import Derived.WideLaws
import Derived.Deep.DeepCutAuto
import Derived.Deep.CutBlock
import Derived.Deep.RegionHeld3
import Derived.Laws.Rows
import Derived.Lib.AppendStr
import Derived.ArgAppend
import Derived.Laws.IdiomCopy
import Derived.OrdersHeld
import Derived.Laws.BitsLemmas
import Derived.RowKit
import Derived.Test.YtanfohlpkppeiaaGreatMFnStores0
import Derived.Laws.Cover1
section
namespace Go.Proofs.YtanfohlpkppeiaaGreat.Print
open Go.RowKit Go.Proofs.YtanfohlpkppeiaaGreatV.PrintWords Go.Proofs.YtanfohlpkppeiaaGreatV.PrintLast Go.Proofs.YtanfohlpkppeiaaGreatV.PrintMore
attribute [local go_sem] max2_int min2_int max_two min_two max_three min_three max_four min_four
set_option linter.unusedVariables false
set_option linter.unusedSimpArgs false
set_option maxHeartbeats 8000000
set_option maxRecDepth 100000
def errW : Option Int → Value
 | none => .nilIface
 | some c => .iface 0 (.int .i64 c)
theorem errW_none : errW none = .nilIface := rfl
theorem errW_some (c : Int) : errW (some c) = .iface 0 (.int .i64 c) := rfl

theorem info9 : (Tryz.prog.info? 9).map (fun i => (i.zero, i.size, i.bytes)) = some (some (.string ⟨#[]⟩), 1, 16) := by kernel_rfl
theorem info26 : (Tryz.prog.info? 26).map (fun i => (i.zero, i.size, i.bytes)) = some (some (.agg #[(.int .i64 0), (.int .i64 0), (.slice none 0 0)]), 3, 40) := by kernel_rfl
theorem info29 : (Tryz.prog.info? 29).map (fun i => (i.zero, i.size, i.bytes)) = some (some (.agg #[(.slice none 0 0), (.int .i64 0), (.int .i64 0), (.string ⟨#[]⟩)]), 4, 56) := by kernel_rfl
theorem info80 : (Tryz.prog.info? 80).map (fun i => (i.zero, i.size, i.bytes)) = some (some (.agg #[(.int .i64 0), (.slice none 0 0)]), 2, 32) := by kernel_rfl
theorem info99 : (Tryz.prog.info? 99).map (fun i => (i.zero, i.size, i.bytes)) = some (some (.agg #[(.string ⟨#[]⟩), (.string ⟨#[]⟩)]), 2, 32) := by kernel_rfl
def Kd.slS {α : Type} (e : Nat) (d : Kd α) : Kd (List α) where
 sz := 1
 E := e :: d.E
 K := (Kd.slice e d).K
 M := fun w base ok xs cs => ∃ v, cs = [v] ∧ Kd.S d e w base ok v xs
 K_len := (Kd.slice e d).K_len
 K_one := (Kd.slice e d).K_one
 K_below := (Kd.slice e d).K_below
 K_of_M := by
  rintro w base ok x cs ⟨v, rfl, h⟩
  obtain ⟨A, c, rfl, hl, hr⟩ := Kd.S_reads h
  exact ⟨A, c, rfl, hl, hr⟩
 M_mono := by
  rintro w base ok ok' x cs hok ⟨v, rfl, h⟩
  exact ⟨v, rfl, Kd.S_mono h hok⟩
 M_bound := by
  rintro w base ok x cs ⟨v, rfl, h⟩
  exact ⟨v, rfl, Kd.S_bound h⟩
 M_move := by
  rintro w w1 base ok x cs hm ⟨v, rfl, h⟩
  exact ⟨v, rfl, Kd.S_move h hm⟩
 M_lower := by
  rintro w base base' ok x cs hb ⟨v, rfl, h⟩
  exact ⟨v, rfl, Kd.S_lower h hb⟩
theorem List.zipIdx_append' {α : Type} (xs ys : List α) : (xs ++ ys).zipIdx = xs.zipIdx ++ ys.zipIdx xs.length := by rw [List.zipIdx_append]; simp
open Classical in
theorem sar_tags {α : Type} {d : Kd α} {e base m c : Nat} {W : World} {ok okp : Nat → Prop} {v : Value} {A : Option Addr} {xs ys : List α} (HO : Kd.S d e W base (fun k => ok k ∧ ¬ okp k) v xs) (HX : Kd.S d e W base okp (.slice A m c) ys) :
  ∃ F : Nat → Nat, (Kd.tag F d).R e W base ok v xs.zipIdx ∧ ReadsRow (fun (p : α × Nat) cs => d.M W base (fun k => okp k ∧ F k = p.2) p.1 cs) d.sz W A m (ys.zipIdx xs.length) ∧ ∀ (p : α × Nat) cs, d.M W base (fun k => okp k ∧ F k = p.2) p.1 cs → (Kd.tag F d).M W base okp p cs := by
 obtain ⟨f, hf⟩ := HO
 obtain ⟨fx, hx⟩ := HX
 refine ⟨fun k => if okp k then fx k + xs.length else f k, Kd.R_mono (Kd.R_tag hf (fun k hk _ => if_neg hk.2)) (fun _ hk => hk.1), ?_, fun p cs h => h⟩
 obtain ⟨A', c', he, hl, hr⟩ := OwnRow.reads hx.2
 injection he with e1 e2 e3
 subst e1
 rw [List.length_zipIdx] at e2
 subst e2
 rw [List.length_zipIdx] at hr
 refine ⟨by rw [List.length_zipIdx], hr.2.1, fun hn => ?_⟩
 obtain ⟨ad, ha, hc⟩ := hr.2.2 hn
 refine ⟨ad, ha, fun j p hj => ?_⟩
 rw [List.getElem?_zipIdx] at hj
 obtain ⟨y, hy, rfl⟩ := Option.map_eq_some_iff.1 hj
 obtain ⟨cs, h1, h2, h3⟩ := hc j (y, j) (Kd.zip_at hy)
 exact ⟨cs, h1, d.M_mono (fun k hk => ⟨hk.1.1, by have h9 : fx k = j := hk.2; show (if okp k then fx k + xs.length else f k) = xs.length + j; rw [if_pos hk.1.1]; omega⟩) h2, h3⟩
theorem Kd.S_append_rows {P : Program} {ops : Array Oper} {rest : List Oper} {o : Oper} {a : Act} {Q : Exit → Act → World → Prop} {α : Type} (d : Kd α) {w0 W : World} (base : Nat) (hgd : o.guard = none) (s x : Operand) (t e : TypeId) (z : Value) (bytes : Nat)
  (ho : o.op = .call { callee := .builtin .append, args := #[s, x], argTypes := #[t, t] })
  (ht : P.underlying t = some (.slice e)) (hinfo : (P.info? e).map (fun i => (i.zero, i.size, i.bytes)) = some (some z, d.sz, bytes)) (hz : z.cells.size = d.sz) (hs0 : 0 < d.sz) (hb0 : 0 < bytes)
  (v : Value) (xs ys : List α) (A : Option Addr) (m c : Nat) (ok okp : Nat → Prop) (hs : a.eval s = v) (hx : a.eval x = .slice A m c)
  (HX : Kd.S d e W base okp (.slice A m c) ys) (hokp : ∀ k, okp k → ok k ∧ some k ≠ v.ownBlock) (hfresh : ∀ k, W.heap.size ≤ k → ok k)
  (HO : Kd.S d e W base (fun k => ok k ∧ ¬ okp k) v xs) (HB : Below base w0 W) (hbase : base ≤ W.heap.size) (hl : (xs.length + ys.length) * bytes ≤ 140737488355328)
  (h : ∀ v1 w1, Kd.S d e w1 base ok v1 (xs ++ ys) → Below base w0 w1 → W.grownBy w1 v.ownBlock → (v1.ownBlock = v.ownBlock ∨ ∃ b, v1.ownBlock = some b ∧ W.heap.size ≤ b) → wpList P ops Q rest (a.put o.dst v1) w1) :
  wpList P ops Q (o :: rest) a W := by
 obtain ⟨F, hR, hX, hM⟩ := sar_tags HO HX
 have hm : ys.length = m := (Kd.S_reads' HX).1.symm
 refine Kd.R_append_rows (Kd.tag F d) base hgd s x t e z bytes ho ht hinfo hz hs0 hb0 v xs.zipIdx (ys.zipIdx xs.length) A m c ok okp hs hx hR hX hM hokp hfresh HB hbase (by rw [List.length_zipIdx, ← hm]; exact hl) ?_
 intro v1 w1 hr hb hg hat
 rw [← List.zipIdx_append' xs ys] at hr
 exact h v1 w1 ⟨F, hr⟩ hb hg hat
theorem Kd.S_times {α : Type} {d : Kd α} {e base : Nat} {W : World} {ok oku : Nat → Prop} {v u : Value} {xs : List α} (h : Kd.S d e W base ok v xs) (hu : ∀ k, u.ownBlock = some k → oku k) (ha : ∀ k, ok k → oku k → False) : Kd.S d e W base (fun k => ok k ∧ some k ≠ u.ownBlock) v xs := Kd.S_mono h (fun k hk => ⟨hk, fun e => ha k hk (hu k e.symm)⟩)
theorem Kd.S_lit2 {P : Program} {ops : Array Oper} {rest : List Oper} {o : Oper} {a : Act} {Q : Exit → Act → World → Prop} {α : Type} (d : Kd α) {W : World} (base e : Nat) (hgd : o.guard = none) {N : Tmp} (hd : o.dst = some N) {x : α} {cs : List Value} {ok okp : Nat → Prop} (okt : Nat → Prop)
  (hrun : (execOp a.eval o).run P W = .ok (.value (.slice (some ⟨W.heap.size, 0, none⟩) [x].length [x].length)) (W.alloc (.cells cs.toArray e)))
  (hp : d.M W base okp x cs) (hokt : ∀ k, okp k → okt k) (hok : ∀ k, okp k → ok k) (hfresh : ok W.heap.size) (hbase : base ≤ W.heap.size)
  (h : ∀ v1 w1, Kd.S d e w1 base (fun k => ok k ∧ (some k = v1.ownBlock ∨ okt k)) v1 [x] → Below W.heap.size W w1 → (∀ k, v1.ownBlock = some k → W.heap.size ≤ k) → wpList P ops Q rest (a.put o.dst v1) w1) :
  wpList P ops Q (o :: rest) a W := by
 refine Kd.S_lits (w0 := W) d base e hgd hd (xs := [x]) (inner := cs) (ok := fun k => ok k ∧ (k = W.heap.size ∨ (okt k ∧ k < W.heap.size))) (fun j k => j = 0 ∧ (okp k ∧ k < W.heap.size)) hrun (by rw [d.K_len (d.K_of_M hp)]; simp) ?_ (fun i j k hi hj => hi.1.trans hj.1.symm) (fun j k hk => ⟨hok k hk.2.1, .inr ⟨hokt k hk.2.1, hk.2.2⟩⟩) ⟨hfresh, .inl rfl⟩ (Below.refl _ _) hbase (by simp) ?_
 ·
  intro j y hj
  cases j with
  | zero =>
   obtain rfl : x = y := by simpa using hj
   rw [Nat.zero_mul, List.drop_zero, List.take_of_length_le (Nat.le_of_eq (d.K_len (d.K_of_M hp)))]; exact d.M_mono (fun k hk => ⟨rfl, hk.1, hk.2.2.1⟩) (d.M_bound hp)
  | succ j => simp at hj
 intro v1 w1 hs _ hg hn
 obtain ⟨b, hb, hl⟩ := hn
 have h3 : b = W.heap.size := by
  rcases ((Kd.S_R hs).1 b hb).2 with h2 | h2
  ·
   exact h2
  exact absurd h2.2 (by omega)
 exact h v1 w1 (Kd.S_mono hs (fun k hk => ⟨hk.1, hk.2.elim (fun he => .inl (by rw [hb, he, h3])) (fun he => .inr he.1)⟩)) (Below.grown (Below.refl _ _) hg (Nat.le_refl _) (fun k e => by cases e)) (fun k e => by rw [hb] at e; cases e; exact hl)
theorem box_stepL {P : Program} {ops : Array Oper} {o : Oper} {a : Act} {Q : Exit → Act → World → Prop} {Kc : Act → World → Prop} {W : World} (hw : Region.wanted o (yielded ops a.tmps) = true) {N : Tmp} (_hd : o.dst = some N) {cs : Array Value} {t : TypeId}
  (hrun : (execOp a.eval o).run P W = .ok (.value (.slice (some ⟨W.heap.size, 0, none⟩) 1 1)) (W.alloc (.cells cs t (0, 0))))
  (h : ∀ g, g = W.heap.size → ∀ w1, w1.heap[g]? = some (.cells cs t (0, 0)) → Below W.heap.size W w1 → Kc (a.put o.dst (.slice (some ⟨g, 0, none⟩) 1 1)) w1) : if Region.wanted o (yielded ops a.tmps) = true then Oper.wp P o a W Kc Q else Kc (a.put o.dst undef) W :=
 event_step hw hrun (h _ rfl _ (blk_new W _) (ba_ (Below.refl _ _) _))
theorem Kd.reads1 {α : Type} {d : Kd α} {e base : Nat} {W : World} {p : α} {n g : Nat} {cs : List Value} {okp : Nat → Prop} {f : Nat → Nat} (hbx : W.heap[g]? = some (.cells cs.toArray e (0, 0))) (hp : d.M W base okp p cs) (hf : ∀ k, okp k → f k = n) :
  ReadsRow (fun (q : α × Nat) cs => d.M W base (fun k => okp k ∧ f k = q.2) q.1 cs) d.sz W (some ⟨g, 0, none⟩) 1 [(p, n)] := by
 refine ⟨rfl, by decide, fun _ => ⟨_, rfl, fun j q hj => ?_⟩⟩
 cases j with
 | zero =>
  obtain rfl : (p, n) = q := by simpa using hj
  refine ⟨cs, d.K_len (d.K_of_M hp), d.M_mono (fun k hk => ⟨hk, hf k hk⟩) hp, fun i u hu => ?_⟩
  rw [Nat.zero_mul, Nat.zero_add]
  rw [show (⟨g, 0, none⟩ : Addr).add i = ⟨g, i, none⟩ by unfold Addr.add; split <;> simp_all, blk_cell hbx]
  simpa using hu
 | succ j => simp at hj
theorem Kd.S_append_box_step {P : Program} {ops : Array Oper} {o : Oper} {a : Act} {Q : Exit → Act → World → Prop} {Kc : Act → World → Prop} {α : Type} (d : Kd α) {w0 W : World} (base : Nat) (hw : Region.wanted o (yielded ops a.tmps) = true) (s x : Operand) (t e : TypeId) (z : Value) (bytes : Nat)
  (ho : o.op = .call { callee := .builtin .append, args := #[s, x], argTypes := #[t, t] })
  (ht : P.underlying t = some (.slice e)) (hinfo : (P.info? e).map (fun i => (i.zero, i.size, i.bytes)) = some (some z, d.sz, bytes)) (hz : z.cells.size = d.sz) (hs0 : 0 < d.sz) (hb0 : 0 < bytes)
  (v : Value) (xs : List α) (p : α) (cs : List Value) (ok okp : Nat → Prop) (g : Nat) (hbx : W.heap[g]? = some (.cells cs.toArray e (0, 0))) (hs : a.eval s = v) (hx : a.eval x = .slice (some ⟨g, 0, none⟩) 1 1) (hp : d.M W base okp p cs) (hokp : ∀ k, okp k → ok k ∧ some k ≠ v.ownBlock) (hfresh : ∀ k, W.heap.size ≤ k → ok k)
  (HO : Kd.S d e W base (fun k => ok k ∧ ¬ okp k) v xs) (HB : Below base w0 W) (hbase : base ≤ W.heap.size) (hl : (xs.length + 1) * bytes ≤ 140737488355328)
  (h : ∀ v1 w1, Kd.S d e w1 base ok v1 (xs ++ [p]) → Below base w0 w1 → W.grownBy w1 v.ownBlock → (v1.ownBlock = v.ownBlock ∨ ∃ b, v1.ownBlock = some b ∧ W.heap.size ≤ b) → Kc (a.put o.dst v1) w1) :
  if Region.wanted o (yielded ops a.tmps) = true then Oper.wp P o a W Kc Q else Kc (a.put o.dst undef) W := by
 obtain ⟨f, hf, hR⟩ := Kd.S_tag HO xs.length okp (fun _ hk h2 => h2.2 hk)
 refine Kd.R_append_rows_step (Kd.tag f d) base hw s x t e z bytes ho ht hinfo hz hs0 hb0 v xs.zipIdx [(p, xs.length)] (some ⟨g, 0, none⟩) 1 1 ok okp hs hx (Kd.R_mono hR (fun _ hk => hk.1)) (Kd.reads1 hbx hp hf) (fun _ _ h => h) hokp hfresh HB hbase (by rw [List.length_zipIdx]; exact hl) ?_
 intro v1 w1 hr hb hg hat
 rw [show xs.zipIdx ++ [(p, xs.length)] = (xs ++ [p]).zipIdx by rw [List.zipIdx_append']; rfl] at hr
 exact h v1 w1 ⟨f, hr⟩ hb hg hat
def Kd.opt {α : Type} (d : Kd α) : Kd (Option α) where
 sz := d.sz
 E := d.E
 K := fun w x cs => match x with | none => cs.length = d.sz ∧ ∀ u ∈ cs, u.oneCell' = true | some y => d.K w y cs
 M := fun w base ok x cs => match x with | none => cs.length = d.sz ∧ ∀ u ∈ cs, u.oneCell' = true | some y => d.M w base ok y cs
 K_len := by intro w x cs h; cases x with | none => exact h.1 | some y => exact d.K_len h
 K_one := by intro w x cs h; cases x with | none => exact h.2 | some y => exact d.K_one h
 K_below := by intro w w1 x cs hb h; cases x with | none => exact h | some y => exact d.K_below hb h
 K_of_M := by intro w base ok x cs h; cases x with | none => exact h | some y => exact d.K_of_M h
 M_mono := by intro w base ok ok' x cs hok h; cases x with | none => exact h | some y => exact d.M_mono hok h
 M_bound := by intro w base ok x cs h; cases x with | none => exact h | some y => exact d.M_bound h
 M_move := by intro w w1 base ok x cs hm h; cases x with | none => exact h | some y => exact d.M_move hm h
 M_lower := by intro w base base' ok x cs hb h; cases x with | none => exact h | some y => exact d.M_lower hb h
abbrev Kd.gap {α : Type} (m : Nat) (xs : List α) : List (Option α) := List.replicate m none ++ (xs.drop m).map some
theorem Kd.gap_length {α : Type} {m : Nat} {xs : List α} (hm : m ≤ xs.length) : (Kd.gap m xs).length = xs.length := by simp only [Kd.gap, List.length_append, List.length_replicate, List.length_map, List.length_drop]; omega
theorem Kd.gap_at {α : Type} {m j : Nat} {xs : List α} {p : Option α} (hj : (Kd.gap m xs)[j]? = some p) : (j < m ∧ p = none) ∨ ∃ y, m ≤ j ∧ xs[j]? = some y ∧ p = some y := by
 rcases Nat.lt_or_ge j m with h | h
 ·
  rw [Kd.gap, List.getElem?_append_left (by simpa using h), List.getElem?_replicate, if_pos h] at hj
  exact .inl ⟨h, (Option.some.inj hj).symm⟩
 rw [Kd.gap, List.getElem?_append_right (by simpa using h), List.length_replicate, List.getElem?_map, List.getElem?_drop, show m + (j - m) = j by omega] at hj
 obtain ⟨y, hy, rfl⟩ := Option.map_eq_some_iff.1 hj
 exact .inr ⟨y, h, hy, rfl⟩
theorem Kd.own_len {A : Option Addr} {n m c c' : Nat} : (Value.slice A n c).ownBlock = (Value.slice A m c').ownBlock := by cases A <;> rfl
theorem Kd.S_split {α : Type} {d : Kd α} {e base n c : Nat} {W : World} {ok : Nat → Prop} {A : Option Addr} {xs : List α} (h : Kd.S d e W base ok (.slice A n c) xs) (m : Nat) (hm : m ≤ xs.length) :
  ∃ G : Nat → Prop, Kd.S (Kd.opt d) e W base (fun k => ok k ∧ G k) (.slice A n c) (Kd.gap m xs) ∧ Kd.S d e W base (fun k => ok k ∧ (¬ G k ∨ some k = (Value.slice A m c).ownBlock)) (.slice A m c) (xs.take m) ∧ ∀ k, G k → ok k := by
 obtain ⟨f, h⟩ := h
 refine ⟨fun k => ok k ∧ (m ≤ f k ∨ some k = (Value.slice A n c).ownBlock), ⟨f, ?_⟩, ⟨f, ?_⟩, fun _ hk => hk.1⟩
 ·
  obtain ⟨h0, inner, ho, hr⟩ := h
  rw [List.length_zipIdx] at ho
  refine ⟨fun k hk => ⟨h0 k hk, h0 k hk, .inr hk.symm⟩, inner, ?_, ?_, ?_⟩
  ·
   rw [List.length_zipIdx, Kd.gap_length hm]; exact ho
  ·
   have := hr.1; rw [List.length_zipIdx] at this ⊢; rw [Kd.gap_length hm]; exact this
  intro j p hj
  rw [List.getElem?_zipIdx, Nat.zero_add] at hj
  obtain ⟨y, hy, rfl⟩ := Option.map_eq_some_iff.1 hj
  rcases Kd.gap_at hy with ⟨hlt, rfl⟩ | ⟨z, hge, hz, rfl⟩
  ·
   have hl : j < xs.length := by omega
   have h2 := d.K_of_M (hr.2 j (xs[j], j) (Kd.zip_at (List.getElem?_eq_getElem hl)))
   exact ⟨d.K_len h2, d.K_one h2⟩
  exact d.M_mono (fun k hk => ⟨⟨⟨hk.1.1, hk.1.1, .inl (by have h9 : f k = j := hk.2; omega)⟩, hk.1.2⟩, hk.2⟩) (hr.2 j (z, j) (Kd.zip_at hz))
 have h2 := Kd.R_take h (m := m) (by rw [List.length_zipIdx]; exact hm)
 have he : (xs.take m).zipIdx = xs.zipIdx.take m := by
  apply List.ext_getElem?
  intro j
  simp only [List.getElem?_zipIdx, List.getElem?_take, Nat.zero_add]
  split <;> simp
 rw [← he] at h2
 obtain ⟨h0, inner, ho, hr⟩ := h2
 refine ⟨fun k hk => ⟨h0 k hk, .inr hk.symm⟩, inner, ho, hr.1, fun j p hj => ?_⟩
 have hj2 := hj
 rw [List.getElem?_zipIdx, Nat.zero_add] at hj2
 obtain ⟨y, hy, rfl⟩ := Option.map_eq_some_iff.1 hj2
 have hlt : j < m := by have := (List.getElem?_eq_some_iff.1 hy).1; rw [List.length_take] at this; omega
 refine d.M_mono (fun k hk => ?_) (hr.2 j (y, j) hj)
 have h9 : f k = j := hk.2
 have h8 := hk.1.2
 refine ⟨⟨⟨hk.1.1, .inl (fun hg => ?_)⟩, h8⟩, hk.2⟩
 rcases hg.2 with hg | hg
 ·
  omega
 refine h8 ?_
 cases A with
 | none => simp [Value.ownBlock] at hg
 | some a => simpa [Value.ownBlock] using hg
theorem sar_tags' {α : Type} {d : Kd α} {e base m c : Nat} {W : World} {ok okx : Nat → Prop} {v : Value} {A : Option Addr} {xs ys : List α} (HO : Kd.S d e W base (fun k => ok k ∧ ¬ (okx k ∧ some k ≠ (Value.slice A m c).ownBlock)) v xs) (HX : Kd.S d e W base okx (.slice A m c) ys) :
  ∃ F : Nat → Nat, (Kd.tag F d).R e W base ok v xs.zipIdx ∧ ReadsRow (fun (p : α × Nat) cs => d.M W base (fun k => (okx k ∧ some k ≠ (Value.slice A m c).ownBlock) ∧ F k = p.2) p.1 cs) d.sz W A m (ys.zipIdx xs.length) := by
 classical
 obtain ⟨f, hf⟩ := HO
 obtain ⟨fx, hx⟩ := HX
 refine ⟨fun k => if okx k ∧ some k ≠ (Value.slice A m c).ownBlock then fx k + xs.length else f k, Kd.R_mono (Kd.R_tag hf (fun k hk _ => if_neg hk.2)) (fun _ hk => hk.1), ?_⟩
 obtain ⟨A', c', he, hl, hr⟩ := OwnRow.reads hx.2
 injection he with e1 e2 e3
 subst e1
 rw [List.length_zipIdx] at e2
 subst e2
 rw [List.length_zipIdx] at hr
 refine ⟨by rw [List.length_zipIdx], hr.2.1, fun hn => ?_⟩
 obtain ⟨ad, ha, hc⟩ := hr.2.2 hn
 refine ⟨ad, ha, fun j p hj => ?_⟩
 rw [List.getElem?_zipIdx] at hj
 obtain ⟨y, hy, rfl⟩ := Option.map_eq_some_iff.1 hj
 obtain ⟨cs, h1, h2, h3⟩ := hc j (y, j) (Kd.zip_at hy)
 refine ⟨cs, h1, d.M_mono (fun k hk => ?_) h2, h3⟩
 have h9 : fx k = j := hk.2
 refine ⟨hk.1, ?_⟩
 show (if okx k ∧ some k ≠ (Value.slice A ys.length c).ownBlock then fx k + xs.length else f k) = xs.length + j
 rw [if_pos hk.1]; omega
theorem rest_tags {α : Type} {d : Kd α} {e base m n c : Nat} {W : World} {ok okx : Nat → Prop} {v : Value} {A : Option Addr} {zs xs : List α} (hm : m ≤ xs.length) (HO : Kd.S d e W base (fun k => ok k ∧ ¬ (okx k ∧ some k ≠ (Value.slice A n c).ownBlock)) v zs) (HX : Kd.S (Kd.opt d) e W base okx (.slice A n c) (Kd.gap m xs)) :
  ∃ F : Nat → Nat, (Kd.tag F d).R e W base ok v zs.zipIdx ∧ ReadsRow (fun (p : α × Nat) cs => d.M W base (fun k => (okx k ∧ some k ≠ (Value.slice A n c).ownBlock) ∧ F k = p.2) p.1 cs) d.sz W (if c = m then A else A.map (·.add (m * d.sz))) (xs.drop m).length ((xs.drop m).zipIdx zs.length) := by
 classical
 obtain ⟨f, hf⟩ := HO
 obtain ⟨fx, hx⟩ := HX
 refine ⟨fun k => if okx k ∧ some k ≠ (Value.slice A n c).ownBlock then fx k - m + zs.length else f k, Kd.R_mono (Kd.R_tag hf (fun k hk _ => if_neg hk.2)) (fun _ hk => hk.1), ?_⟩
 obtain ⟨A', c', he, hl, hr⟩ := OwnRow.reads hx.2
 injection he with e1 e2 e3
 subst e1
 rw [List.length_zipIdx, Kd.gap_length hm] at e2
 subst e3
 rw [List.length_zipIdx, Kd.gap_length hm] at hl hr
 have hd : (xs.drop m).length = xs.length - m := List.length_drop
 refine ⟨by rw [List.length_zipIdx], by have := hr.2.1; omega, fun hn => ?_⟩
 obtain ⟨ad, ha, hc⟩ := hr.2.2 (by omega)
 subst ha
 rw [if_neg (by omega)]
 refine ⟨ad.add (m * d.sz), rfl, fun j p hj => ?_⟩
 rw [List.getElem?_zipIdx] at hj
 obtain ⟨y, hy, rfl⟩ := Option.map_eq_some_iff.1 hj
 have hy0 := hy
 rw [List.getElem?_drop] at hy
 have hg : (Kd.gap m xs)[m + j]? = some (some y) := by
  rw [Kd.gap, List.getElem?_append_right (by simp), List.length_replicate, List.getElem?_map, show m + j - m = j by omega, hy0]; rfl
 obtain ⟨cs, h1, h2, h3⟩ := hc (m + j) (some y, m + j) (Kd.zip_at hg)
 refine ⟨cs, h1, d.M_mono (fun k hk => ?_) h2, fun i u hu => ?_⟩
 ·
  have h9 : fx k = m + j := hk.2
  refine ⟨hk.1, ?_⟩
  show (if okx k ∧ some k ≠ (Value.slice (some ad) n c).ownBlock then fx k - m + zs.length else f k) = zs.length + j
  rw [if_pos hk.1]; omega
 rw [add_add, show m * d.sz + (j * d.sz + i) = (m + j) * d.sz + i by rw [Nat.add_mul]; omega]
 exact h3 i u hu
theorem Kd.S_append_part_step {P : Program} {ops : Array Oper} {o : Oper} {a : Act} {Q : Exit → Act → World → Prop} {Kc : Act → World → Prop} {α : Type} (d : Kd α) {w0 W : World} (base : Nat) (hw : Region.wanted o (yielded ops a.tmps) = true) (s x : Operand) (t e : TypeId) (z : Value) (bytes : Nat)
  (ho : o.op = .call { callee := .builtin .append, args := #[s, x], argTypes := #[t, t] })
  (ht : P.underlying t = some (.slice e)) (hinfo : (P.info? e).map (fun i => (i.zero, i.size, i.bytes)) = some (some z, d.sz, bytes)) (hz : z.cells.size = d.sz) (hs0 : 0 < d.sz) (hb0 : 0 < bytes)
  (v : Value) (xs ys : List α) (A : Option Addr) (m c : Nat) (ok okx : Nat → Prop) (hs : a.eval s = v) (hx : a.eval x = .slice A m c) (HX : Kd.S d e W base okx (.slice A m c) ys) (hokp : ∀ k, okx k → some k ≠ (Value.slice A m c).ownBlock → ok k ∧ some k ≠ v.ownBlock) (hfresh : ∀ k, W.heap.size ≤ k → ok k)
  (HO : Kd.S d e W base (fun k => ok k ∧ ¬ (okx k ∧ some k ≠ (Value.slice A m c).ownBlock)) v xs) (HB : Below base w0 W) (hbase : base ≤ W.heap.size) (hl : (xs.length + ys.length) * bytes ≤ 140737488355328)
  (h : ∀ v1 w1, Kd.S d e w1 base ok v1 (xs ++ ys) → Below base w0 w1 → W.grownBy w1 v.ownBlock → (v1.ownBlock = v.ownBlock ∨ ∃ b, v1.ownBlock = some b ∧ W.heap.size ≤ b) → Kc (a.put o.dst v1) w1) :
  if Region.wanted o (yielded ops a.tmps) = true then Oper.wp P o a W Kc Q else Kc (a.put o.dst undef) W := by
 obtain ⟨F, hR, hX⟩ := sar_tags' HO HX
 have hm : ys.length = m := (Kd.S_reads' HX).1.symm
 refine Kd.R_append_rows_step (Kd.tag F d) base hw s x t e z bytes ho ht hinfo hz hs0 hb0 v xs.zipIdx (ys.zipIdx xs.length) A m c ok (fun k => okx k ∧ some k ≠ (Value.slice A m c).ownBlock) hs hx hR hX (fun _ _ h => h) (fun k hk => hokp k hk.1 hk.2) hfresh HB hbase (by rw [List.length_zipIdx]; rw [← hm]; exact hl) ?_
 intro v1 w1 hr hb hg hat
 rw [← List.zipIdx_append' xs ys] at hr
 exact h v1 w1 ⟨F, hr⟩ hb hg hat
theorem Kd.S_append_rest_step {P : Program} {ops : Array Oper} {o : Oper} {a : Act} {Q : Exit → Act → World → Prop} {Kc : Act → World → Prop} {α : Type} (d : Kd α) {w0 W : World} (base : Nat) (hw : Region.wanted o (yielded ops a.tmps) = true) (s x : Operand) (t e : TypeId) (z : Value) (bytes : Nat)
  (ho : o.op = .call { callee := .builtin .append, args := #[s, x], argTypes := #[t, t] })
  (ht : P.underlying t = some (.slice e)) (hinfo : (P.info? e).map (fun i => (i.zero, i.size, i.bytes)) = some (some z, d.sz, bytes)) (hz : z.cells.size = d.sz) (hs0 : 0 < d.sz) (hb0 : 0 < bytes)
  (v : Value) (xs ys : List α) (A : Option Addr) (n c m c1 : Nat) (ok okx : Nat → Prop) (hs : a.eval s = v) (hm : m ≤ ys.length) (hx : a.eval x = .slice (if c = m then A else A.map (·.add (m * d.sz))) (ys.drop m).length c1) (HX : Kd.S (Kd.opt d) e W base okx (.slice A n c) (Kd.gap m ys)) (hokp : ∀ k, okx k → some k ≠ (Value.slice A n c).ownBlock → ok k ∧ some k ≠ v.ownBlock) (hfresh : ∀ k, W.heap.size ≤ k → ok k)
  (HO : Kd.S d e W base (fun k => ok k ∧ ¬ (okx k ∧ some k ≠ (Value.slice A n c).ownBlock)) v xs) (HB : Below base w0 W) (hbase : base ≤ W.heap.size) (hl : (xs.length + (ys.drop m).length) * bytes ≤ 140737488355328)
  (h : ∀ v1 w1, Kd.S d e w1 base ok v1 (xs ++ (ys.drop m)) → Below base w0 w1 → W.grownBy w1 v.ownBlock → (v1.ownBlock = v.ownBlock ∨ ∃ b, v1.ownBlock = some b ∧ W.heap.size ≤ b) → Kc (a.put o.dst v1) w1) :
  if Region.wanted o (yielded ops a.tmps) = true then Oper.wp P o a W Kc Q else Kc (a.put o.dst undef) W := by
 obtain ⟨F, hR, hX⟩ := rest_tags hm HO HX
 refine Kd.R_append_rows_step (Kd.tag F d) base hw s x t e z bytes ho ht hinfo hz hs0 hb0 v xs.zipIdx ((ys.drop m).zipIdx xs.length) _ _ c1 ok (fun k => okx k ∧ some k ≠ (Value.slice A n c).ownBlock) hs hx hR hX (fun _ _ h => h) (fun k hk => hokp k hk.1 hk.2) hfresh HB hbase (by rw [List.length_zipIdx]; exact hl) ?_
 intro v1 w1 hr hb hg hat
 rw [← List.zipIdx_append' xs (ys.drop m)] at hr
 exact h v1 w1 ⟨F, hr⟩ hb hg hat
theorem Kd.S_ngz {α : Type} {d : Kd α} {e : Nat} {w W : World} {ok G : Nat → Prop} {g : Nat} {v : Value} {xs : List α} (hG : ∀ k, G k → k < g) (hg : g < W.heap.size) (h : Kd.S d e w W.heap.size ok v xs) : Kd.S d e w W.heap.size (fun k => ok k ∧ ¬ G k) v xs := Kd.S_mono (Kd.S_bound h) (fun k hk => ⟨hk.1, fun h2 => by have := hG k h2; have := hk.2.1; omega⟩)
/-! #### struct type 99 -/
structure S99 where
 f0 : ByteArray
 f1 : ByteArray
def z99 : S99 := ⟨(⟨#[]⟩ : ByteArray), (⟨#[]⟩ : ByteArray)⟩
def k99 : Kd S99 := Kd.iso (Kd.pair Kd.string Kd.string) (fun x : S99 => (x.f0, x.f1))
theorem k99_open {w : World} {x : S99} {cs : List Value} (h : k99.K w x cs) : cs = [.string x.f0, .string x.f1] := by
 obtain ⟨_, _, rfl, rfl, rfl⟩ := h
 exact rfl
theorem k99_mkM (w : World) (base : Nat) (ok : Nat → Prop) (x : S99)  : k99.M w base ok x [.string x.f0, .string x.f1] := ⟨[.string x.f0], [.string x.f1], rfl, rfl, rfl⟩
def rd_T99 (xs : List S99) (i : Int) : S99 := xs.getD i.toNat z99
theorem at_T99 {w : World} {A : Option Addr} {n : Nat} {xs : List S99} (h : Kd.C k99 w A n xs) (i : Int) (h0 : 0 ≤ i) (h1 : i < n) : ∃ ad , A = some ad ∧ w.cell? (ad.add (i.toNat * 2)) = some (.string (rd_T99 xs i).f0) ∧ w.cell? ⟨(ad.add (i.toNat * 2)).block, (ad.add (i.toNat * 2)).off + 1, none⟩ = some (.string (rd_T99 xs i).f1) := by
 obtain ⟨ad, c, e, _, hK, hc0⟩ := Kd.C_get h z99 i h0 h1
 have hc : ∀ j u, c[j]? = some u → w.cell? (ad.add (i.toNat * 2 + j)) = some u := hc0
 obtain rfl := k99_open hK
 exact ⟨ad, e, hc 0 _ rfl, by rw [← add_field _ _ 1 (by omega)]; exact hc 1 _ rfl⟩

def rd_L3 (xs : List (List S99)) (i : Int) : (List S99) := xs.getD i.toNat ([] : List S99)
/-! #### struct type 29 -/
structure S29 where
 f0 : (List S99)
 f1 : Int
 f2 : Int
 f3 : ByteArray
def z29 : S29 := ⟨([] : List S99), (0 : Int), (0 : Int), (⟨#[]⟩ : ByteArray)⟩
def k29 : Kd S29 := Kd.iso (Kd.pair (Kd.slice 99 k99) (Kd.pair (Kd.int .i64) (Kd.pair (Kd.int .i64) Kd.string))) (fun x : S29 => (x.f0, x.f1, x.f2, x.f3))
theorem k29_open {w : World} {x : S29} {cs : List Value} (h : k29.K w x cs) : ∃ A0 c0, cs = [.slice A0 x.f0.length c0, .int .i64 x.f1, .int .i64 x.f2, .string x.f3] ∧ x.f0.length ≤ c0 ∧ k99.C w A0 x.f0.length x.f0 := by
 obtain ⟨_, _, rfl, ⟨A0, c0, rfl, l0, g0⟩, ⟨_, _, rfl, rfl, ⟨_, _, rfl, rfl, rfl⟩⟩⟩ := h
 exact ⟨A0, c0, rfl, l0, g0⟩
theorem k29_openM {w : World} {base : Nat} {ok : Nat → Prop} {x : S29} {cs : List Value} (h : k29.M w base ok x cs) : ∃ v0, cs = [v0, .int .i64 x.f1, .int .i64 x.f2, .string x.f3] ∧ k99.R 99 w base ok v0 x.f0 := by
 obtain ⟨_, _, rfl, ⟨v0, rfl, g0⟩, ⟨_, _, rfl, rfl, ⟨_, _, rfl, rfl, rfl⟩⟩⟩ := h
 exact ⟨v0, rfl, g0⟩
theorem k29_mkM (w : World) (base : Nat) (ok : Nat → Prop) (x : S29) {v0 : Value} (g0 : k99.R 99 w base ok v0 x.f0) : k29.M w base ok x [v0, .int .i64 x.f1, .int .i64 x.f2, .string x.f3] := ⟨[v0], [.int .i64 x.f1, .int .i64 x.f2, .string x.f3], rfl, ⟨v0, rfl, g0⟩, ⟨[.int .i64 x.f1], [.int .i64 x.f2, .string x.f3], rfl, rfl, ⟨[.int .i64 x.f2], [.string x.f3], rfl, rfl, rfl⟩⟩⟩
def rd_T29 (xs : List S29) (i : Int) : S29 := xs.getD i.toNat z29
theorem at_T29 {w : World} {A : Option Addr} {n : Nat} {xs : List S29} (h : Kd.C k29 w A n xs) (i : Int) (h0 : 0 ≤ i) (h1 : i < n) : ∃ ad A0 c0, A = some ad ∧ w.cell? (ad.add (i.toNat * 4)) = some (.slice A0 (rd_T29 xs i).f0.length c0) ∧ w.cell? ⟨(ad.add (i.toNat * 4)).block, (ad.add (i.toNat * 4)).off + 1, none⟩ = some (.int .i64 (rd_T29 xs i).f1) ∧ w.cell? ⟨(ad.add (i.toNat * 4)).block, (ad.add (i.toNat * 4)).off + 2, none⟩ = some (.int .i64 (rd_T29 xs i).f2) ∧ w.cell? ⟨(ad.add (i.toNat * 4)).block, (ad.add (i.toNat * 4)).off + 3, none⟩ = some (.string (rd_T29 xs i).f3) ∧ (rd_T29 xs i).f0.length ≤ c0 ∧ k99.C w A0 (rd_T29 xs i).f0.length (rd_T29 xs i).f0 := by
 obtain ⟨ad, c, e, _, hK, hc0⟩ := Kd.C_get h z29 i h0 h1
 have hc : ∀ j u, c[j]? = some u → w.cell? (ad.add (i.toNat * 4 + j)) = some u := hc0
 obtain ⟨A0, c0, rfl, l0, g0⟩ := k29_open hK
 exact ⟨ad, A0, c0, e, hc 0 _ rfl, by rw [← add_field _ _ 1 (by omega)]; exact hc 1 _ rfl, by rw [← add_field _ _ 2 (by omega)]; exact hc 2 _ rfl, by rw [← add_field _ _ 3 (by omega)]; exact hc 3 _ rfl, l0, g0⟩

def rd_L6 (xs : List (List S29)) (i : Int) : (List S29) := xs.getD i.toNat ([] : List S29)
/-! #### struct type 80 -/
structure S80 where
 f0 : Int
 f1 : (List S29)
def z80 : S80 := ⟨(0 : Int), ([] : List S29)⟩
def k80 : Kd S80 := Kd.iso (Kd.pair (Kd.int .i64) (Kd.slS 29 k29)) (fun x : S80 => (x.f0, x.f1))
theorem k80_open {w : World} {x : S80} {cs : List Value} (h : k80.K w x cs) : ∃ A1 c1, cs = [.int .i64 x.f0, .slice A1 x.f1.length c1] ∧ x.f1.length ≤ c1 ∧ k29.C w A1 x.f1.length x.f1 := by
 obtain ⟨_, _, rfl, rfl, ⟨A1, c1, rfl, l1, g1⟩⟩ := h
 exact ⟨A1, c1, rfl, l1, g1⟩
theorem k80_openM {w : World} {base : Nat} {ok : Nat → Prop} {x : S80} {cs : List Value} (h : k80.M w base ok x cs) : ∃ v1, cs = [.int .i64 x.f0, v1] ∧ Kd.S k29 29 w base ok v1 x.f1 := by
 obtain ⟨_, _, rfl, rfl, ⟨v1, rfl, g1⟩⟩ := h
 exact ⟨v1, rfl, g1⟩
theorem k80_mkM (w : World) (base : Nat) (ok : Nat → Prop) (x : S80) {v1 : Value} (g1 : Kd.S k29 29 w base ok v1 x.f1) : k80.M w base ok x [.int .i64 x.f0, v1] := ⟨[.int .i64 x.f0], [v1], rfl, rfl, ⟨v1, rfl, g1⟩⟩
def rd_T80 (xs : List S80) (i : Int) : S80 := xs.getD i.toNat z80
theorem at_T80 {w : World} {A : Option Addr} {n : Nat} {xs : List S80} (h : Kd.C k80 w A n xs) (i : Int) (h0 : 0 ≤ i) (h1 : i < n) : ∃ ad A1 c1, A = some ad ∧ w.cell? (ad.add (i.toNat * 2)) = some (.int .i64 (rd_T80 xs i).f0) ∧ w.cell? ⟨(ad.add (i.toNat * 2)).block, (ad.add (i.toNat * 2)).off + 1, none⟩ = some (.slice A1 (rd_T80 xs i).f1.length c1) ∧ (rd_T80 xs i).f1.length ≤ c1 ∧ k29.C w A1 (rd_T80 xs i).f1.length (rd_T80 xs i).f1 := by
 obtain ⟨ad, c, e, _, hK, hc0⟩ := Kd.C_get h z80 i h0 h1
 have hc : ∀ j u, c[j]? = some u → w.cell? (ad.add (i.toNat * 2 + j)) = some u := hc0
 obtain ⟨A1, c1, rfl, l1, g1⟩ := k80_open hK
 exact ⟨ad, A1, c1, e, hc 0 _ rfl, by rw [← add_field _ _ 1 (by omega)]; exact hc 1 _ rfl, l1, g1⟩

def rd_L8 (xs : List (List S80)) (i : Int) : (List S80) := xs.getD i.toNat ([] : List S80)
/-! #### struct type 26 -/
structure S26 where
 f0 : Int
 f1 : Int
 f2 : (List S80)
def z26 : S26 := ⟨(0 : Int), (0 : Int), ([] : List S80)⟩
def k26 : Kd S26 := Kd.iso (Kd.pair (Kd.int .i64) (Kd.pair (Kd.int .i64) (Kd.slS 80 k80))) (fun x : S26 => (x.f0, x.f1, x.f2))
theorem k26_open {w : World} {x : S26} {cs : List Value} (h : k26.K w x cs) : ∃ A2 c2, cs = [.int .i64 x.f0, .int .i64 x.f1, .slice A2 x.f2.length c2] ∧ x.f2.length ≤ c2 ∧ k80.C w A2 x.f2.length x.f2 := by
 obtain ⟨_, _, rfl, rfl, ⟨_, _, rfl, rfl, ⟨A2, c2, rfl, l2, g2⟩⟩⟩ := h
 exact ⟨A2, c2, rfl, l2, g2⟩
theorem k26_openM {w : World} {base : Nat} {ok : Nat → Prop} {x : S26} {cs : List Value} (h : k26.M w base ok x cs) : ∃ v2, cs = [.int .i64 x.f0, .int .i64 x.f1, v2] ∧ Kd.S k80 80 w base ok v2 x.f2 := by
 obtain ⟨_, _, rfl, rfl, ⟨_, _, rfl, rfl, ⟨v2, rfl, g2⟩⟩⟩ := h
 exact ⟨v2, rfl, g2⟩
theorem k26_mkM (w : World) (base : Nat) (ok : Nat → Prop) (x : S26) {v2 : Value} (g2 : Kd.S k80 80 w base ok v2 x.f2) : k26.M w base ok x [.int .i64 x.f0, .int .i64 x.f1, v2] := ⟨[.int .i64 x.f0], [.int .i64 x.f1, v2], rfl, rfl, ⟨[.int .i64 x.f1], [v2], rfl, rfl, ⟨v2, rfl, g2⟩⟩⟩
def rd_T26 (xs : List S26) (i : Int) : S26 := xs.getD i.toNat z26
theorem at_T26 {w : World} {A : Option Addr} {n : Nat} {xs : List S26} (h : Kd.C k26 w A n xs) (i : Int) (h0 : 0 ≤ i) (h1 : i < n) : ∃ ad A2 c2, A = some ad ∧ w.cell? (ad.add (i.toNat * 3)) = some (.int .i64 (rd_T26 xs i).f0) ∧ w.cell? ⟨(ad.add (i.toNat * 3)).block, (ad.add (i.toNat * 3)).off + 1, none⟩ = some (.int .i64 (rd_T26 xs i).f1) ∧ w.cell? ⟨(ad.add (i.toNat * 3)).block, (ad.add (i.toNat * 3)).off + 2, none⟩ = some (.slice A2 (rd_T26 xs i).f2.length c2) ∧ (rd_T26 xs i).f2.length ≤ c2 ∧ k80.C w A2 (rd_T26 xs i).f2.length (rd_T26 xs i).f2 := by
 obtain ⟨ad, c, e, _, hK, hc0⟩ := Kd.C_get h z26 i h0 h1
 have hc : ∀ j u, c[j]? = some u → w.cell? (ad.add (i.toNat * 3 + j)) = some u := hc0
 obtain ⟨A2, c2, rfl, l2, g2⟩ := k26_open hK
 exact ⟨ad, A2, c2, e, hc 0 _ rfl, by rw [← add_field _ _ 1 (by omega)]; exact hc 1 _ rfl, by rw [← add_field _ _ 2 (by omega)]; exact hc 2 _ rfl, l2, g2⟩
end Go.Proofs.YtanfohlpkppeiaaGreat.Print
end
section
namespace Go.Proofs.YtanfohlpkppeiaaGreat.Print
open Go.RowKit Go.Proofs.YtanfohlpkppeiaaGreatV.PrintWords Go.Proofs.YtanfohlpkppeiaaGreatV.PrintLast Go.Proofs.YtanfohlpkppeiaaGreatV.PrintMore
set_option linter.unusedVariables false
set_option linter.unusedSimpArgs false
namespace Kd
variable {α : Type} {d : Kd α} {e n m cap g base : Nat} {w w1 W : World} {ok : Nat → Prop} {v : Value} {xs : List α}
theorem S_ltz (hz : n = w.heap.size) (h : Kd.S d e w base ok v xs) : Kd.S d e w base (fun k => ok k ∧ k < n) v xs := Kd.S_mono (Kd.S_bound h) (fun k hk => ⟨hk.1, by have := hk.2.2.1; omega⟩)
theorem R_ltz (hz : n = w.heap.size) (h : Kd.R d e w base ok v xs) : Kd.R d e w base (fun k => ok k ∧ k < n) v xs := Kd.R_mono (Kd.R_bound h) (fun k hk => ⟨hk.1, by have := hk.2.2.1; omega⟩)
theorem S_gez (hz : n = W.heap.size) (h : Kd.S d e w W.heap.size ok v xs) : Kd.S d e w W.heap.size (fun k => ok k ∧ n ≤ k) v xs := Kd.S_mono (Kd.S_bound h) (fun k hk => ⟨hk.1, by have := hk.2.1; omega⟩)
theorem R_gez (hz : n = W.heap.size) (h : Kd.R d e w W.heap.size ok v xs) : Kd.R d e w W.heap.size (fun k => ok k ∧ n ≤ k) v xs := Kd.R_mono (Kd.R_bound h) (fun k hk => ⟨hk.1, by have := hk.2.1; omega⟩)
theorem S_name (_h : Kd.S d e w W.heap.size ok v xs) : ∃ n, n = W.heap.size := ⟨_, rfl⟩
theorem R_name (_h : Kd.R d e w W.heap.size ok v xs) : ∃ n, n = W.heap.size := ⟨_, rfl⟩
theorem S_fp (h : Kd.S d e w base ok v xs) : ∃ P : Nat → Prop, Kd.S d e w base P v xs ∧ ∀ k, P k → ok k ∧ base ≤ k ∧ ∃ q, q ∈ e :: d.E ∧ ∃ cells, w.heap[k]? = some (.cells cells q (0, 0)) := ⟨_, Kd.S_bound h, fun _ hk => ⟨hk.1, hk.2.1, hk.2.2.2⟩⟩
theorem R_fp (h : Kd.R d e w base ok v xs) : ∃ P : Nat → Prop, Kd.R d e w base P v xs ∧ ∀ k, P k → ok k ∧ base ≤ k ∧ ∃ q, q ∈ e :: d.E ∧ ∃ cells, w.heap[k]? = some (.cells cells q (0, 0)) := ⟨_, Kd.R_bound h, fun _ hk => ⟨hk.1, hk.2.1, hk.2.2.2⟩⟩
theorem R_fpt (hE : d.E = []) (h : Kd.R d e w base ok v xs) : ∃ P : Nat → Prop, Kd.R d e w base P v xs ∧ ∀ k, P k → (ok k ∧ some k = v.ownBlock) ∧ base ≤ k ∧ ∃ q, q ∈ e :: d.E ∧ ∃ cells, w.heap[k]? = some (.cells cells q (0, 0)) :=
  ⟨_, Kd.R_bound (Kd.R_tight hE h), fun k hk => ⟨⟨h.1 k hk.1.symm, hk.1⟩, hk.2.1, hk.2.2.2⟩⟩
end Kd
theorem no_blk {W : World} {g t : Nat} {cells : Array Value} {E : List Nat} (hb : W.heap[g]? = some (.cells cells t (0, 0))) (ht : ∀ q, q ∈ E → q ≠ t) (h : ∃ q, q ∈ E ∧ ∃ c, W.heap[g]? = some (.cells c q (0, 0))) : False := by
  obtain ⟨q, hq, c, hc⟩ := h
  rw [hc] at hb
  injection hb with hb
  injection hb with _ hb
  exact ht q hq hb
section
variable {α : Type} {d : Kd α} {e n cap g base : Nat} {W : World} {ok : Nat → Prop} {v : Value} {xs : List α} {x : α} {i : Int}
theorem S_begin (h : Kd.S d e W base ok v xs) (z : α) (i : Int) (h0 : 0 ≤ i) (h1 : i < (xs.length : Int)) : Kd.S d e W base ok v (xs.set i.toNat (xs.getD i.toNat z)) := by
  have hi : i.toNat < xs.length := by omega
  rw [List.getD_eq_getElem?_getD, List.getElem?_eq_getElem hi]
  simpa using h
theorem S_hand (h : Kd.S d e W base ok (.slice (some ⟨g, 0, none⟩) n cap) (xs.set i.toNat x)) (h0 : 0 ≤ i) (h1 : i < (xs.length : Int)) :
    ∃ (oki : Nat → Prop) (c : List Value), d.M W base oki x c ∧ (∀ j u, c[j]? = some u → W.cell? ⟨g, i.toNat * d.sz + j, none⟩ = some u) ∧ (∀ j, W.frozen? ⟨g, i.toNat * d.sz + j, none⟩ = false) ∧ (∀ k, oki k → ok k ∧ k ≠ g) ∧
      (∀ w1 x', Kept W w1 oki → d.M w1 base oki x' c → Kd.S d e w1 base ok (.slice (some ⟨g, 0, none⟩) n cap) (xs.set i.toNat x')) ∧
      (∀ u j x', u.oneCell' = true → j + 1 ≤ d.sz → d.M W base oki x' (c.take j ++ [u] ++ c.drop (j + 1)) → Kd.S d e (W.setCells g (i.toNat * d.sz + j) [u]) base ok (.slice (some ⟨g, 0, none⟩) n cap) (xs.set i.toNat x') ∧ W.grownBy (W.setCells g (i.toNat * d.sz + j) [u]) (some g)) := by
  have hn := (Kd.S_reads' h).1
  rw [List.length_set] at hn
  have hi : i.toNat < xs.length := by omega
  obtain ⟨oki, c, hcl, hM, hcc, hfr, hoki, hH⟩ := Kd.S_elem (Kd.S_mono (ok' := fun k => ok k ∧ ¬ False) h (fun k hk => ⟨hk, id⟩)) x i h0 (by omega)
  rw [List.getD_eq_getElem?_getD, List.getElem?_set_self hi, Option.getD_some] at hM
  refine ⟨oki, c, hM, hcc, hfr, fun k hk => ⟨(hoki k hk).1.1, (hoki k hk).2⟩, fun w1 x' hk hM1 => ?_, fun u j x' hu hj hM1 => ?_⟩
  · have h2 := Kd.H_back (Kd.H_step hH (fun k _ hn hlt => hk.2 k hlt hn)) hM1 (fun _ hk => hk)
    rw [List.set_set] at h2
    exact Kd.S_mono h2 (fun k hk => hk.1)
  · obtain ⟨h2, h3⟩ := Kd.S_seg (okg := fun _ => False) hH h0 (by omega) (seg := [u]) (j := j) hj hM1 (fun k hk => .inl hk) (fun _ hk => hk.elim)
    rw [List.set_set] at h2
    exact ⟨h2, h3⟩
end

end Go.Proofs.YtanfohlpkppeiaaGreat.Print
end
section
namespace Go.Proofs.YtanfohlpkppeiaaGreat.Print
open Go.RowKit Go.Proofs.YtanfohlpkppeiaaGreatV.PrintWords Go.Proofs.YtanfohlpkppeiaaGreatV.PrintLast Go.Proofs.YtanfohlpkppeiaaGreatV.PrintMore
attribute [local go_sem] max2_int min2_int max_two min_two max_three min_three max_four min_four
set_option linter.unusedVariables false
set_option linter.unusedSimpArgs false
set_option maxHeartbeats 8000000
set_option maxRecDepth 100000
def laws_big.f (l0 : List Int) : Option (Bool) := some (decide ((l0.length : Int) > 1048576))
theorem laws_big.calls (d : Option Addr) (g : Nat) (a : List Int) (r : Bool) (w : World) (b : Kd.C (Kd.int .u8) w d a.length a) (c : a.length ≤ g) (h : laws_big.f a = some r) :
  Calls Tryz.prog 6 #[.slice d a.length g] w fun e w' => e = .returned (.bool r) ∧ Drawn0 w w' := by
 have i := Aside0.mk b
 have j := Aside0.mk c
 clear b c
 have H : (some (decide ((a.length : Int) > 1048576))) = some r := h
 clear h
 obtain rfl := Option.some.inj H
 go_enter Tryz.func6, Tryz.ntmps6
 go_wp2
 go_ret
 exact ⟨by first | rfl | (simp; done) | (simp [*]; done), by repeat (first | exact Drawn0.refl _ | apply Drawn0.step)⟩
def impl_copySet.f (l0 : List (S99)) : Option ((List (S99))) := if ([] : List (S99)).length + l0.length < 4398046511104 then (some (([] : List (S99)) ++ l0)) else (none)
theorem impl_copySet.calls (n : Option Addr) (o : Nat) (a : List (S99)) (r : List (S99)) (w : World) (g : Kd.C k99 w n a.length a) (i : a.length ≤ o) (h : impl_copySet.f a = some r) :
  Calls Tryz.prog 97 #[.slice n a.length o] w fun e w' => ∃ v0_ : Value, e = .returned (v0_) ∧ Kd.R k99 99 w' w.heap.size (fun _ => True) v0_ r ∧ Below w.heap.size w w' := by
 have m := Aside0.mk g
 have q := Aside0.mk i
 clear g i
 have l := Aside0.mk (Below.refl w.heap.size w)
 have H : (if ([] : List (S99)).length + a.length < 4398046511104 then (some (([] : List (S99)) ++ a)) else (none)) = some r := h
 clear h
 replace H := im_ H; obtain ⟨j, H⟩ := H
 obtain ⟨k, hy_⟩ : ∃ y_ : List (S99), y_ = (([] : List (S99)) ++ a) := ⟨_, rfl⟩
 replace H : (some k) = some r := hm_
 have c := Aside0.mk hy_; clear hy_
 obtain rfl := Option.some.inj H
 go_enter Tryz.func97, Tryz.ntmps97
 go_wp2_with (first | ((with_reducible refine gate_builtin (b := .append) (xs := #[.const (.slice none 0 0), .tmp 3]) rfl ?_); at_builtin; refine Kd.R_append_rows k99 (w0 := w) w.heap.size rfl (.const (.slice none 0 0)) (.tmp 3) 27 99 (.agg #[(.string ⟨#[]⟩), (.string ⟨#[]⟩)]) 32 rfl Tryz.underlying27 info99 rfl (by decide) (by omega) (.slice none 0 0) ([] : List (S99)) a _ _ _ (fun _ => True) (fun _ => False) rfl rfl ?aO ?aR (fun _ _ h => h) (fun _ h => h.elim) ?aF ?aB ?aS ?aL ?_; (case aR => repeat (first | exact m.out | (with_reducible first | refine ca_ ?_ _ | refine cn_ ?_ _ | refine cd_ ?_))); (case aB => exact (hs_ l.out)); (case aF => exact (fun _ _ => trivial)); (case aO => exact ((Kd.R_nil _ _ _ _ (fun _ => True)))); (case aS => exact (below_size (hs_ l.out))); (case aL => have := j.out; omega); intro p s ho hb hg hat; rw [← c.out] at ho; replace l := Aside0.mk (hb); have d := Aside0.mk (ho); clear ho hb hg hat))
 go_ret
 exact ⟨_, rr_, rp_ d.out, hs_ l.out⟩
def impl_copyAlarm.f (l0_0 : List (S99)) (a0_1 : Int) (a0_2 : Int) (a0_3 : ByteArray) : Option ((List (S99)) × Int × Int × ByteArray) := (impl_copySet.f l0_0).bind fun t650 => (some (t650, a0_1, a0_2, a0_3))
theorem impl_copyAlarm.calls (n : Option Addr) (o : Nat) (b : List (S99)) (d : Int) (g : Int) (i : ByteArray) (F : List (S99)) (G : Int) (I : Int) (J : ByteArray) (w : World) (q : Kd.C k99 w n b.length b) (r : b.length ≤ o) (h : impl_copyAlarm.f b d g i = some (F, G, I, J)) :
  Calls Tryz.prog 58 #[.agg #[.slice n b.length o, .int .i64 d, .int .i64 g, .string i]] w fun e w' => ∃ v0_ : Value, e = .returned (.agg #[v0_, .int .i64 G, .int .i64 I, .string J]) ∧ Kd.R k99 99 w' w.heap.size (fun _ => True) v0_ F ∧ Below w.heap.size w w' := by
 have hu29 := Tryz.underlying29
 have v := Aside0.mk q
 have x := Aside0.mk r
 clear q r
 have s := Aside0.mk (Below.refl w.heap.size w)
 have H : ((impl_copySet.f b).bind fun j => (some (j, d, g, i))) = some (F, G, I, J) := h
 clear h
 replace H := bi_ H; obtain ⟨j, A2, H⟩ := H
 simp only [Option.some.injEq, Prod.mk.injEq] at H
 obtain ⟨rfl, rfl, rfl, rfl⟩ := H
 go_enter Tryz.func58, Tryz.ntmps58
 go_wp2_with (first | ((with_reducible refine gd_ 1 rfl ?_); refine bv_ 1 #[.slice n b.length o, .int .i64 d, .int .i64 g, .string i] 29 ?_; intro y hg w3 k hb; have a := Aside0.mk (k); have z := gq_ hg s; replace s := st_ s hb; have K := Ge_.mk z.out; clear hb k hg) | ((with_reducible refine gd_ 2 rfl ?_); refine bv_ 2 #[.slice none 0 0, .int .i64 0, .int .i64 0, .string (⟨#[]⟩ : ByteArray)] 29 ?_; intro t hg w4 k hb; have c := Aside0.mk (k); have A := gq_ hg s; replace s := st_ s hb; have L := Ge_.mk A.out; obtain ⟨l, m, a⟩ := nb_ a hg hb; clear hb k hg; have W := l.out; have X := m.out; obtain ⟨Y, Z, aa, ba, ca, da, ea, fa⟩ := bc4_ a.out) | ((with_reducible refine gate_callee (f := 97) rfl ?_); refine gl_ (some 5) Tryz.func97 #[.slice n b.length o] ?_; (with_reducible refine (impl_copySet.calls _ _ b j _ ?side1 ?side2 A2.out).mono ?_); (case side1 => exact cp_ ((Kd.C_below v.out s.out))); (case side2 => exact x.out); rintro e w7 ⟨ga, rfl, B, hb⟩; refine ⟨_, rfl, ?_⟩; have u := rw_ B s; replace a := bk2_ a hb; replace c := bk2_ c hb; replace s := st_ s hb; (try clear hb); (try clear hk); (try clear B); obtain ⟨D, E, M⟩ := Kd.R_slice u.out; subst M; obtain ⟨ha, ia, ja, ka, la, ma, na, oa⟩ := bc4_ a.out; obtain ⟨N, O, P, Q, S, T, U, V⟩ := bc4_ c.out))
 refine bodyPost_ret (results_cell_row rfl _ _ t 29 #[.slice D j.length E, .int .i64 d, .int .i64 g, .string i] (0, 0) _ rfl (bp_ c.out) Tryz.underlying29 rfl (by kernel_rfl)) rfl ?_
 exact ⟨_, rr_, Kd.R_mono (rf_ t (Kd.R_far (p := ⟨y, 0, none⟩) (Kd.R_types (Kd.R_types u.out a.out (by decide)) c.out (by decide)) (fun _ hk => hk.1.2) (.slice D j.length E)) (fun _ hk => hk.2)) (fun _ hk => trivial), hs_ s.out⟩
def impl_Touch.f (l0_0 : List (S99)) (a0_1 : Int) (a0_2 : Int) (a0_3 : ByteArray) (l1_0 : List (S99)) (a1_1 : Int) (a1_2 : Int) (a1_3 : ByteArray) : Option (Bool) := if a0_1 ≤ a1_2 then (some (decide (a1_1 ≤ a0_2))) else (some false)
theorem impl_Touch.calls (n : Option Addr) (o : Nat) (a : List (S99)) (c : Int) (l : Int) (p : ByteArray) (q : Option Addr) (s : Nat) (b : List (S99)) (m : Int) (d : Int) (t : ByteArray) (r : Bool) (w : World) (u : Kd.C k99 w n a.length a) (v : a.length ≤ o) (x : Kd.C k99 w q b.length b) (y : b.length ≤ s) (h : impl_Touch.f a c l p b m d t = some r) :
  Calls Tryz.prog 80 #[.agg #[.slice n a.length o, .int .i64 c, .int .i64 l, .string p], .agg #[.slice q b.length s, .int .i64 m, .int .i64 d, .string t]] w fun e w' => e = .returned (.bool r) ∧ Below w.heap.size w w' := by
 have hu29 := Tryz.underlying29
 have G := Aside0.mk u
 have I := Aside0.mk v
 clear u v
 have J := Aside0.mk x
 have K := Aside0.mk y
 clear x y
 have z := Aside0.mk (Below.refl w.heap.size w)
 have H : (if c ≤ d then (some (decide (m ≤ l))) else (some false)) = some r := h
 clear h
 have AHz_ := Aside0.mk H
 clear H
 go_enter Tryz.func80, Tryz.ntmps80
 go_wp2_with (first | ((with_reducible refine gd_ 2 rfl ?_); refine bv_ 2 #[.slice n a.length o, .int .i64 c, .int .i64 l, .string p] 29 ?_; intro L hg w4 g hb; have i := Aside0.mk (g); have A := gq_ hg z; replace z := st_ z hb; have M := Ge_.mk A.out; clear hb g hg) | (((with_reducible refine gd_ 3 rfl ?_); refine bv_ 3 #[.slice q b.length s, .int .i64 m, .int .i64 d, .string t] 29 ?_; intro N hg w5 g hb; have B := Aside0.mk (g); have D := gq_ hg z; replace z := st_ z hb; have O := Ge_.mk D.out; obtain ⟨j, k, i⟩ := nb_ i hg hb; clear hb g hg; have P := j.out; have Q := k.out; obtain ⟨R, S, T, U, V, W, X, Y⟩ := bc4_ i.out; obtain ⟨Z, aa, ba, ca, da, ea, fa, ga⟩ := bc4_ B.out); refine Aside0.out ?_))
 have H := AHz_.out
 clear AHz_
 replace H := ie_ H; rcases H with ⟨E, H⟩ | ⟨E, H⟩
 ·
  have F := decide_eq_true E
  clear E
  obtain rfl := Option.some.inj H
  refine ⟨?_⟩
  go_wp2
  go_ret
  exact an_ (hs_ z.out)
 have F : decide (c ≤ d) = false := decide_eq_false E
 clear E
 obtain rfl := Option.some.inj H
 refine ⟨?_⟩
 go_wp2
 go_ret
 exact an_ (hs_ z.out)
def impl_Merge.f (l0_0 : List (S99)) (a0_1 : Int) (a0_2 : Int) (a0_3 : ByteArray) (l1_0 : List (S99)) (a1_1 : Int) (a1_2 : Int) (a1_3 : ByteArray) : Option ((List (S99)) × Int × Int × ByteArray) := (impl_copyAlarm.f l1_0 a1_1 a1_2 a1_3).bind fun bt706 => ((impl_Touch.f l0_0 a0_1 a0_2 a0_3 l1_0 a1_1 a1_2 a1_3).bind fun t713 => (if t713 = true then (some (bt706.1, mn a0_1 a1_1, bt706.2.2.1, bt706.2.2.2)) else (some (bt706.1, bt706.2.1, bt706.2.2.1, bt706.2.2.2))))
theorem impl_Merge.calls (N : Option Addr) (O : Nat) (q : List (S99)) (o : Int) (F : Int) (G : ByteArray) (I : Option Addr) (J : Nat) (j : List (S99)) (g : Int) (l : Int) (m : ByteArray) (r1 : List (S99)) (r2 : Int) (r3 : Int) (r4 : ByteArray) (w : World) (Z : Kd.C k99 w N q.length q) (aa : q.length ≤ O) (ba : Kd.C k99 w I j.length j) (ca : j.length ≤ J) (h : impl_Merge.f q o F G j g l m = some (r1, r2, r3, r4)) :
  Calls Tryz.prog 24 #[.agg #[.slice N q.length O, .int .i64 o, .int .i64 F, .string G], .agg #[.slice I j.length J, .int .i64 g, .int .i64 l, .string m]] w fun e w' => ∃ v0_ : Value, e = .returned (.agg #[v0_, .int .i64 r2, .int .i64 r3, .string r4]) ∧ Kd.R k99 99 w' w.heap.size (fun _ => True) v0_ r1 ∧ Below w.heap.size w w' := by
 have hu29 := Tryz.underlying29
 have da := Aside0.mk Z
 have ea := Aside0.mk aa
 clear Z aa
 have Q := Aside0.mk ba
 have S := Aside0.mk ca
 clear ba ca
 have n := Aside0.mk (Below.refl w.heap.size w)
 have H : ((impl_copyAlarm.f j g l m).bind fun bt706 => ((impl_Touch.f q o F G j g l m).bind fun ia => (if ia = true then (some (bt706.1, mn o g, bt706.2.2.1, bt706.2.2.2)) else (some (bt706.1, bt706.2.1, bt706.2.2.1, bt706.2.2.2))))) = some (r1, r2, r3, r4) := h
 clear h
 replace H := bi_ H; obtain ⟨⟨K, U, L, M⟩, A3, H⟩ := H; (try dsimp only at H)
 replace H := bi_ H; obtain ⟨ia, A4, H⟩ := H
 replace H := ib_ H; rcases H with ⟨rfl, H⟩ | ⟨rfl, H⟩
 ·
  obtain ⟨ha, P⟩ : ∃ j_ : Int, (mn o g) = j_ := ⟨_, rfl⟩
  replace H : (some (K, ha, L, M)) = some (r1, r2, r3, r4) := by first | (rw [P] at H; exact H) | (simp only [P] at H ⊢; exact H)
  (try rw [P] at A3)
  (try rw [P] at A4)
  have hji6_ : (if g < o then g else o) = ha := P
  simp only [Option.some.injEq, Prod.mk.injEq] at H
  obtain ⟨rfl, rfl, rfl, rfl⟩ := H
  go_enter Tryz.func24, Tryz.ntmps24
  go_wp2_with (first | ((with_reducible refine gd_ 2 rfl ?_); refine bv_ 2 #[.slice N q.length O, .int .i64 o, .int .i64 F, .string G] 29 ?_; intro na hg w7 d hb; have a := Aside0.mk (d); have V := gq_ hg n; replace n := st_ n hb; have oa := Ge_.mk V.out; clear hb d hg) | ((with_reducible refine gd_ 3 rfl ?_); refine bv_ 3 #[.slice I j.length J, .int .i64 g, .int .i64 l, .string m] 29 ?_; intro pa hg w8 d hb; have b := Aside0.mk (d); have W := gq_ hg n; replace n := st_ n hb; have qa := Ge_.mk W.out; obtain ⟨r, s, a⟩ := nb_ a hg hb; clear hb d hg) | ((with_reducible refine gd_ 4 rfl ?_); refine bv_ 4 #[.slice none 0 0, .int .i64 0, .int .i64 0, .string (⟨#[]⟩ : ByteArray)] 29 ?_; intro T hg w9 d hb; have c := Aside0.mk (d); have X := gq_ hg n; replace n := st_ n hb; have ra := Ge_.mk X.out; obtain ⟨t, u, a⟩ := nb_ a hg hb; obtain ⟨v, x, b⟩ := nb_ b hg hb; clear hb d hg; have Ca := s.out; have Da := r.out; have Ea := v.out; have Fa := x.out; obtain ⟨Ga, Ha, Ia, Ja, Ka, La, Ma, Na⟩ := bc4_ b.out) | ((with_reducible refine gate_callee (f := 58) rfl ?_); refine gl_ (some 7) Tryz.func58 #[.agg #[.slice I j.length J, .int .i64 g, .int .i64 l, .string m]] ?_; (with_reducible refine (impl_copyAlarm.calls _ _ j g l m K U L M _ ?side1 ?side2 A3.out).mono ?_); (case side1 => exact cp_ ((Kd.C_below Q.out n.out))); (case side2 => exact S.out); rintro e kd ⟨ta, rfl, fa, hb⟩; refine ⟨_, rfl, ?_⟩; have i := rw_ fa n; replace a := bk2_ a hb; replace b := bk2_ b hb; replace c := bk2_ c hb; replace n := st_ n hb; (try clear hb); (try clear hk); (try clear fa)) | ((with_reducible refine gd_ 5 rfl ?_); refine bv_ 5 #[.slice none 0 0, .int .i64 0, .int .i64 0, .string (⟨#[]⟩ : ByteArray)] 29 ?_; intro ga hg ld d hb; replace i := rb_ i hb; have k := Aside0.mk (d); have Y := gq_ hg n; replace n := st_ n hb; have sa := Ge_.mk Y.out; obtain ⟨y, z, a⟩ := nb_ a hg hb; obtain ⟨A, B, b⟩ := nb_ b hg hb; obtain ⟨D, E, c⟩ := nb_ c hg hb; clear hb d hg; obtain ⟨ja, ka, ua⟩ := Kd.R_slice i.out; subst ua; have Oa := z.out; have Pa := y.out; have Qa := B.out; have Ra := A.out; have Sa := E.out; have Ta := D.out; obtain ⟨Ua, Va, Wa, Xa, Ya, Za, ab, bb⟩ := bc4_ k.out; have cb := t.out; have db := u.out; obtain ⟨eb, fb, gb, ib, jb, kb, lb, mb⟩ := bc4_ a.out; obtain ⟨nb, ob, pb, qb, rb, sb, tb, ub⟩ := bc4_ b.out) | ((with_reducible refine gate_callee (f := 80) rfl ?_); refine gl_ (some 10) Tryz.func80 #[.agg #[.slice N q.length O, .int .i64 o, .int .i64 F, .string G], .agg #[.slice I j.length J, .int .i64 g, .int .i64 l, .string m]] ?_; (with_reducible refine (impl_Touch.calls _ _ q o F G _ _ j g l m true _ ?side1 ?side2 ?side3 ?side4 A4.out).mono ?_); (case side1 => exact Kd.C_below da.out (hs_ n.out)); (case side2 => exact ea.out); (case side3 => exact Kd.C_below Q.out (hs_ n.out)); (case side4 => exact S.out); rintro e md ⟨rfl, hb⟩; refine ⟨_, rfl, ?_⟩; replace i := Aside0.mk (Kd.R_below (ry_ i.out k.out) hb); replace a := bk2_ a hb; replace b := bk2_ b hb; replace c := bk2_ c hb; replace k := by_ k #[.slice ja K.length ka, .int .i64 U, .int .i64 L, .string M] hb; replace n := st_ n hb; (try clear hb); (try clear hk); obtain ⟨vb, wb, xb, yb, zb, Ab, Bb, Cb⟩ := bc4_ a.out; obtain ⟨Db, Eb, Fb, Gb, Hb, Ib, Jb, Kb⟩ := bc4_ b.out; obtain ⟨Lb, Mb, Nb, Ob, Pb, Qb, Rb, Sb⟩ := bc4_ k.out; obtain ⟨Tb, Ub, Vb, Wb, Xb, Yb, Zb, ac⟩ := bc4_ c.out))
  refine bodyPost_ret (results_cell_row rfl _ _ T 29 #[.slice ja K.length ka, .int .i64 ha, .int .i64 L, .string M] (0, 0) _ rfl (bp_ c.out) Tryz.underlying29 rfl (by kernel_rfl)) rfl ?_
  exact ⟨_, by first | rfl | (simp [errW_none, errW_some] <;> rfl) | (simp only [← P]; first | rfl | (simp [errW_none, errW_some] <;> rfl)) | (simp [*, errW_none, errW_some] <;> rfl), Kd.R_mono (rf_ T (Kd.R_far (p := ⟨ga, 1, none⟩) (Kd.R_types (Kd.R_types i.out k.out (by decide)) c.out (by decide)) (fun _ hk => hk.1.2) (.int .i64 ha)) (fun _ hk => hk.2)) (fun _ hk => trivial), hs_ n.out⟩
 simp only [Option.some.injEq, Prod.mk.injEq] at H
 obtain ⟨rfl, rfl, rfl, rfl⟩ := H
 go_enter Tryz.func24, Tryz.ntmps24
 go_wp2_with (first | ((with_reducible refine gd_ 2 rfl ?_); refine bv_ 2 #[.slice N q.length O, .int .i64 o, .int .i64 F, .string G] 29 ?_; intro na hg nd d hb; have a := Aside0.mk (d); have V := gq_ hg n; replace n := st_ n hb; have oa := Ge_.mk V.out; clear hb d hg) | ((with_reducible refine gd_ 3 rfl ?_); refine bv_ 3 #[.slice I j.length J, .int .i64 g, .int .i64 l, .string m] 29 ?_; intro pa hg od d hb; have b := Aside0.mk (d); have W := gq_ hg n; replace n := st_ n hb; have qa := Ge_.mk W.out; obtain ⟨r, s, a⟩ := nb_ a hg hb; clear hb d hg) | ((with_reducible refine gd_ 4 rfl ?_); refine bv_ 4 #[.slice none 0 0, .int .i64 0, .int .i64 0, .string (⟨#[]⟩ : ByteArray)] 29 ?_; intro T hg pd d hb; have c := Aside0.mk (d); have X := gq_ hg n; replace n := st_ n hb; have ra := Ge_.mk X.out; obtain ⟨t, u, a⟩ := nb_ a hg hb; obtain ⟨v, x, b⟩ := nb_ b hg hb; clear hb d hg; have bc := s.out; have cc := r.out; have dc := v.out; have ec := x.out; obtain ⟨fc, gc, hc, ic, jc, kc, lc, mc⟩ := bc4_ b.out) | ((with_reducible refine gate_callee (f := 58) rfl ?_); refine gl_ (some 7) Tryz.func58 #[.agg #[.slice I j.length J, .int .i64 g, .int .i64 l, .string m]] ?_; (with_reducible refine (impl_copyAlarm.calls _ _ j g l m K U L M _ ?side1 ?side2 A3.out).mono ?_); (case side1 => exact cp_ ((Kd.C_below Q.out n.out))); (case side2 => exact S.out); rintro e qd ⟨ta, rfl, fa, hb⟩; refine ⟨_, rfl, ?_⟩; have i := rw_ fa n; replace a := bk2_ a hb; replace b := bk2_ b hb; replace c := bk2_ c hb; replace n := st_ n hb; (try clear hb); (try clear hk); (try clear fa)) | ((with_reducible refine gd_ 5 rfl ?_); refine bv_ 5 #[.slice none 0 0, .int .i64 0, .int .i64 0, .string (⟨#[]⟩ : ByteArray)] 29 ?_; intro ga hg rd d hb; replace i := rb_ i hb; have k := Aside0.mk (d); have Y := gq_ hg n; replace n := st_ n hb; have sa := Ge_.mk Y.out; obtain ⟨y, z, a⟩ := nb_ a hg hb; obtain ⟨A, B, b⟩ := nb_ b hg hb; obtain ⟨D, E, c⟩ := nb_ c hg hb; clear hb d hg; obtain ⟨la, ma, va⟩ := Kd.R_slice i.out; subst va; have nc := z.out; have oc := y.out; have pc := B.out; have qc := A.out; have rc := E.out; have sc := D.out; obtain ⟨tc, uc, vc, wc, xc, yc, zc, Ac⟩ := bc4_ k.out; have Bc := t.out; have Cc := u.out; obtain ⟨Dc, Ec, Fc, Gc, Hc, Ic, Jc, Kc⟩ := bc4_ a.out; obtain ⟨Lc, Mc, Nc, Oc, Pc, Qc, Rc, Sc⟩ := bc4_ b.out) | ((with_reducible refine gate_callee (f := 80) rfl ?_); refine gl_ (some 10) Tryz.func80 #[.agg #[.slice N q.length O, .int .i64 o, .int .i64 F, .string G], .agg #[.slice I j.length J, .int .i64 g, .int .i64 l, .string m]] ?_; (with_reducible refine (impl_Touch.calls _ _ q o F G _ _ j g l m false _ ?side1 ?side2 ?side3 ?side4 A4.out).mono ?_); (case side1 => exact Kd.C_below da.out (hs_ n.out)); (case side2 => exact ea.out); (case side3 => exact Kd.C_below Q.out (hs_ n.out)); (case side4 => exact S.out); rintro e sd ⟨rfl, hb⟩; refine ⟨_, rfl, ?_⟩; replace i := Aside0.mk (Kd.R_below (ry_ i.out k.out) hb); replace a := bk2_ a hb; replace b := bk2_ b hb; replace c := bk2_ c hb; replace k := by_ k #[.slice la K.length ma, .int .i64 U, .int .i64 L, .string M] hb; replace n := st_ n hb; (try clear hb); (try clear hk); obtain ⟨Tc, Uc, Vc, Wc, Xc, Yc, Zc, ad⟩ := bc4_ k.out; obtain ⟨bd, cd, dd, ed, fd, gd, hd, jd⟩ := bc4_ c.out))
 refine bodyPost_ret (results_cell_row rfl _ _ T 29 #[.slice la K.length ma, .int .i64 U, .int .i64 L, .string M] (0, 0) _ rfl (bp_ c.out) Tryz.underlying29 rfl (by kernel_rfl)) rfl ?_
 exact ⟨_, rr_, Kd.R_mono (ry_ i.out c.out) (fun _ hk => trivial), hs_ n.out⟩
theorem eqA99 (d : Nat) (w : World) (x0 y0 : ByteArray) (x1 y1 : ByteArray) :
  (Op.equalIn (d + 2) 99 (.agg #[.string x0, .string x1]) (.agg #[.string y0, .string y1])).run Tryz.prog w = .ok (x0.toList == y0.toList && (x1.toList == y1.toList)) w := by
 refine eqA_of Tryz.underlying99 (by kernel_rfl) ?_
 refine eqf_cons (by rfl) (by go_simp; rfl) (by go_simp; rfl) (by go_simp) ?_
 exact eqf_last (by rfl) (by go_simp; rfl) (by go_simp; rfl) (by go_simp)
end Go.Proofs.YtanfohlpkppeiaaGreat.Print
end
section
namespace Go.Proofs.YtanfohlpkppeiaaGreat.Print
open Go.RowKit Go.Proofs.YtanfohlpkppeiaaGreatV.PrintWords Go.Proofs.YtanfohlpkppeiaaGreatV.PrintLast Go.Proofs.YtanfohlpkppeiaaGreatV.PrintMore
attribute [local go_sem] max2_int min2_int max_two min_two max_three min_three max_four min_four
set_option linter.unusedVariables false
set_option linter.unusedSimpArgs false

attribute [local go_sem high] eqA99
set_option maxHeartbeats 8000000
set_option maxRecDepth 100000
def impl_SameSet.l0 : Nat → List (S99) → List (S99) → Int → Int → Option (Bool)
 | 0, _, _, _, _ => none
 | k + 1, x0, x1, x12, x13 => if x13 < x12 then (if 0 ≤ x13 then (if x13 < (x0.length : Int) then (if x13 < (x1.length : Int) then (if (!((((rd_T99 x0 x13).f0).toList) == (((rd_T99 x1 x13).f0).toList)) || (!((((rd_T99 x0 x13).f1).toList) == (((rd_T99 x1 x13).f1).toList)))) = true then (some false) else (impl_SameSet.l0 k x0 x1 x12 (wrap64 (x13 + 1)))) else (none)) else (none)) else (none)) else (some true)
def impl_SameSet.f (k : Nat) (l0 : List (S99)) (l1 : List (S99)) : Option (Bool) := if (l0.length : Int) = (l1.length : Int) then (impl_SameSet.l0 k l0 l1 (l0.length : Int) 0) else (some false)
theorem impl_SameSet.calls (k : Nat) (N : Option Addr) (O : Nat) (l0 : List (S99)) (P : Option Addr) (Q : Nat) (i : List (S99)) (r : Bool) (w : World) (u : Kd.C k99 w N l0.length l0) (v : l0.length ≤ O) (x : Kd.C k99 w P i.length i) (y : i.length ≤ Q) (h : impl_SameSet.f k l0 i = some r) :
  Calls Tryz.prog 72 #[.slice N l0.length O, .slice P i.length Q] w fun e w' => e = .returned (.bool r) ∧ Drawn0 w w' := by
 have hu99 := Tryz.underlying99
 have z := Aside0.mk u
 have U := Aside0.mk v
 clear u v
 have A := Aside0.mk x
 have V := Aside0.mk y
 clear x y
 have H : (if (l0.length : Int) = (i.length : Int) then (impl_SameSet.l0 k l0 i (l0.length : Int) 0) else (some false)) = some r := h
 clear h
 replace H := ie_ H; rcases H with ⟨q, H⟩ | ⟨q, H⟩
 ·
  have B : ((l0.length : Int) == (i.length : Int)) = true := beq_iff_eq.mpr q
  have D : ((l0.length : Int) != (i.length : Int)) = false := bne_eq_false_iff_eq.mpr q
  have E : (l0.length == i.length) = true := by first | simpa using q | (simp at q ⊢; omega)
  clear q
  have H' := Aside0.mk H
  clear H
  go_enter Tryz.func72, Tryz.ntmps72
  go_wp2
  repeat (go_quiet (fail); try go_wp2)
  go_loopg [13] k (fun kq L w' => ∃ (a : Int), L = .int .i64 a ∧ Aside0 (impl_SameSet.l0 kq l0 i (l0.length : Int) a = some r) ∧ Aside0 (kq ≤ k) ∧ Drawn0 w w')
  case atStart => exact ⟨(0), rs_, H', ⟨Nat.le_refl _⟩, by repeat (first | exact Drawn0.refl _ | apply Drawn0.step)⟩
  case round =>
   clear H'
   obtain ⟨a, rfl, M, F, ⟨m1, rfl⟩⟩ := hrel
   cases gk with
   | zero => exact absurd M.out (by simp [impl_SameSet.l0])
   | succ W =>
    have H := M.out
    clear M
    simp only [impl_SameSet.l0] at H
    replace H := ie_ H; rcases H with ⟨G, H⟩ | ⟨G, H⟩
    ·
     have I := decide_eq_true G
     clear G
     replace H := id_ H; obtain ⟨R, H⟩ := H
     replace H := id_ H; obtain ⟨S, H⟩ := H
     replace H := id_ H; obtain ⟨T, H⟩ := H
     replace H := ie_ H; rcases H with ⟨J, H⟩ | ⟨J, H⟩
     ·
      have K : (!((((rd_T99 l0 a).f0).toList) == (((rd_T99 i a).f0).toList)) || (!((((rd_T99 l0 a).f1).toList) == (((rd_T99 i a).f1).toList)))) = true := J
      clear J
      obtain rfl := Option.some.inj H
      obtain ⟨b, c⟩ : 0 ≤ (a : Int) ∧ a < (l0.length : Int) := pq_
      obtain ⟨s, j, l, m⟩ := at_T99 z.out a b c
      cases j
      replace b := eq_true b; replace c := eq_true c
      obtain ⟨d, g⟩ : 0 ≤ (a : Int) ∧ a < (i.length : Int) := pq_
      obtain ⟨t, n, o, p⟩ := at_T99 A.out a d g
      cases n
      replace d := eq_true d; replace g := eq_true g
      go_wp2
      repeat (go_quiet (fail); try go_wp2)
      go_ret
      exact ⟨by first | rfl | (simp; done) | (simp [*]; done), by repeat (first | exact Drawn0.refl _ | apply Drawn0.step)⟩
     have K : (!((((rd_T99 l0 a).f0).toList) == (((rd_T99 i a).f0).toList)) || (!((((rd_T99 l0 a).f1).toList) == (((rd_T99 i a).f1).toList)))) = false := by simpa using J
     clear J
     have H' := Aside0.mk H
     clear H
     obtain ⟨b, c⟩ : 0 ≤ (a : Int) ∧ a < (l0.length : Int) := pq_
     obtain ⟨s, j, l, m⟩ := at_T99 z.out a b c
     cases j
     replace b := eq_true b; replace c := eq_true c
     obtain ⟨d, g⟩ : 0 ≤ (a : Int) ∧ a < (i.length : Int) := pq_
     obtain ⟨t, n, o, p⟩ := at_T99 A.out a d g
     cases n
     replace d := eq_true d; replace g := eq_true g
     go_wp2
     repeat (go_quiet (fail); try go_wp2)
     go_roundg W
     case measure => have := F.out; omega
     case rel => exact ⟨(wrap64 (a + 1)), rs_, H', ⟨by have := F.out; omega⟩, by repeat (first | exact Drawn0.refl _ | apply Drawn0.step)⟩
    have I : decide (a < (l0.length : Int)) = false := decide_eq_false G
    clear G
    obtain rfl := Option.some.inj H
    go_wp2
    repeat (go_quiet (fail); try go_wp2)
    go_ret
    exact ⟨by first | rfl | (simp; done) | (simp [*]; done), by repeat (first | exact Drawn0.refl _ | apply Drawn0.step)⟩
 have B : ((l0.length : Int) == (i.length : Int)) = false := beq_eq_false_iff_ne.mpr q
 have D : ((l0.length : Int) != (i.length : Int)) = true := bne_iff_ne.mpr q
 have E : (l0.length == i.length) = false := by first | simpa using q | (simp at q ⊢; omega)
 obtain rfl := Option.some.inj H
 go_enter Tryz.func72, Tryz.ntmps72
 go_wp2
 repeat (go_quiet (fail); try go_wp2)
 go_ret
 exact ⟨by first | rfl | (simp; done) | (simp [*]; done), by repeat (first | exact Drawn0.refl _ | apply Drawn0.step)⟩
end Go.Proofs.YtanfohlpkppeiaaGreat.Print
end
section
namespace Go.Proofs.YtanfohlpkppeiaaGreat.Print
open Go.RowKit Go.Proofs.YtanfohlpkppeiaaGreatV.PrintWords Go.Proofs.YtanfohlpkppeiaaGreatV.PrintLast Go.Proofs.YtanfohlpkppeiaaGreatV.PrintMore
attribute [local go_sem] max2_int min2_int max_two min_two max_three min_three max_four min_four
set_option linter.unusedVariables false
set_option linter.unusedSimpArgs false
set_option maxHeartbeats 8000000
set_option maxRecDepth 100000
def impl_SameAlarm.f (k : Nat) (l0_0 : List (S99)) (a0_1 : Int) (a0_2 : Int) (a0_3 : ByteArray) (l1_0 : List (S99)) (a1_1 : Int) (a1_2 : Int) (a1_3 : ByteArray) : Option (Bool) := (impl_SameSet.f k l0_0 l1_0).bind fun t1010 => (if t1010 = true then (if a0_1 = a1_1 then (if a0_2 = a1_2 then (some (a0_3.toList == a1_3.toList)) else (some false)) else (some false)) else (some false))
theorem impl_SameAlarm.calls (k : Nat) (n : Option Addr) (o : Nat) (a : List (S99)) (c : Int) (d : Int) (t : ByteArray) (p : Option Addr) (q : Nat) (b : List (S99)) (g : Int) (i : Int) (u : ByteArray) (r : Bool) (w : World) (x : Kd.C k99 w n a.length a) (y : a.length ≤ o) (z : Kd.C k99 w p b.length b) (A : b.length ≤ q) (h : impl_SameAlarm.f k a c d t b g i u = some r) :
  Calls Tryz.prog 19 #[.agg #[.slice n a.length o, .int .i64 c, .int .i64 d, .string t], .agg #[.slice p b.length q, .int .i64 g, .int .i64 i, .string u]] w fun e w' => e = .returned (.bool r) ∧ Below w.heap.size w w' := by
 have hu29 := Tryz.underlying29
 have B := Aside0.mk x
 have D := Aside0.mk y
 clear x y
 have E := Aside0.mk z
 have F := Aside0.mk A
 clear z A
 have v := Aside0.mk (Below.refl w.heap.size w)
 have H : ((impl_SameSet.f k a b).bind fun G => (if G = true then (if c = g then (if d = i then (some (t.toList == u.toList)) else (some false)) else (some false)) else (some false))) = some r := h
 clear h
 replace H := bi_ H; obtain ⟨G, A3, H⟩ := H
 have AHz_ := Aside0.mk H
 clear H
 go_enter Tryz.func19, Tryz.ntmps19
 go_wp2_with (first | ((with_reducible refine gd_ 2 rfl ?_); refine bv_ 2 #[.slice n a.length o, .int .i64 c, .int .i64 d, .string t] 29 ?_; intro R hg w7 s hb; have j := Aside0.mk (s); have I := gq_ hg v; replace v := st_ v hb; have S := Ge_.mk I.out; clear hb s hg) | (((with_reducible refine gd_ 3 rfl ?_); refine bv_ 3 #[.slice p b.length q, .int .i64 g, .int .i64 i, .string u] 29 ?_; intro T hg w8 s hb; have J := Aside0.mk (s); have K := gq_ hg v; replace v := st_ v hb; have U := Ge_.mk K.out; obtain ⟨l, m, j⟩ := nb_ j hg hb; clear hb s hg; have ma := l.out; have na := m.out; obtain ⟨V, W, X, Y, Z, aa, ba, ca⟩ := bc4_ j.out; obtain ⟨da, ea, fa, ga, ha, ia, ja, ka⟩ := bc4_ J.out); refine Aside0.out ?_))
 have H := AHz_.out
 clear AHz_
 replace H := ib_ H; rcases H with ⟨rfl, H⟩ | ⟨rfl, H⟩
 ·
  have AHz_ := Aside0.mk H
  clear H
  refine ⟨?_⟩
  go_wp2_with (first | (((with_reducible refine gate_callee (f := 72) rfl ?_); refine gl_ (some 9) Tryz.func72 #[.slice n a.length o, .slice p b.length q] ?_; (with_reducible refine (impl_SameSet.calls k _ _ a _ _ b true _ ?side1 ?side2 ?side3 ?side4 A3.out).mono ?_); (case side1 => exact cp_ ((Kd.C_below B.out v.out))); (case side2 => exact D.out); (case side3 => exact cp_ ((Kd.C_below E.out v.out))); (case side4 => exact F.out); rintro e w' ⟨rfl, ⟨nd, rfl⟩⟩; refine ⟨_, rfl, ?_⟩); refine Aside0.out ?_))
  have H := AHz_.out
  clear AHz_
  replace H := ie_ H; rcases H with ⟨L, H⟩ | ⟨L, H⟩
  ·
   have N : (c == g) = true := beq_iff_eq.mpr L
   have O : (c != g) = false := bne_eq_false_iff_eq.mpr L
   clear L
   replace H := ie_ H; rcases H with ⟨M, H⟩ | ⟨M, H⟩
   ·
    have P : (d == i) = true := beq_iff_eq.mpr M
    have Q : (d != i) = false := bne_eq_false_iff_eq.mpr M
    clear M
    obtain rfl := Option.some.inj H
    refine ⟨?_⟩
    go_wp2
    go_ret
    exact an_ (hs_ v.out)
   have P : (d == i) = false := beq_eq_false_iff_ne.mpr M
   have Q : (d != i) = true := bne_iff_ne.mpr M
   obtain rfl := Option.some.inj H
   refine ⟨?_⟩
   go_wp2
   go_ret
   exact an_ (hs_ v.out)
  have N : (c == g) = false := beq_eq_false_iff_ne.mpr L
  have O : (c != g) = true := bne_iff_ne.mpr L
  obtain rfl := Option.some.inj H
  refine ⟨?_⟩
  go_wp2
  go_ret
  exact an_ (hs_ v.out)
 obtain rfl := Option.some.inj H
 refine ⟨?_⟩
 go_wp2_with (first | ((with_reducible refine gate_callee (f := 72) rfl ?_); refine gl_ (some 9) Tryz.func72 #[.slice n a.length o, .slice p b.length q] ?_; (with_reducible refine (impl_SameSet.calls k _ _ a _ _ b false _ ?side1 ?side2 ?side3 ?side4 A3.out).mono ?_); (case side1 => exact cp_ ((Kd.C_below B.out v.out))); (case side2 => exact D.out); (case side3 => exact cp_ ((Kd.C_below E.out v.out))); (case side4 => exact F.out); rintro e w' ⟨rfl, ⟨nd, rfl⟩⟩; refine ⟨_, rfl, ?_⟩))
 go_ret
 exact an_ (hs_ v.out)
/-- A state of type 102 at block g of W; what its slices lead to came in by w0. -/
def IsS102 (w0 W : World) (g : Nat) (f0 : List Int) (f1 : Int) (f2 : Int) : Prop := ∃ A0 c0, W.heap[g]? = some (.cells #[.slice A0 f0.length c0, .int .i64 f1, .int .i64 f2] 102 (0, 0)) ∧ w0.heap.size ≤ g ∧ Kd.C (Kd.int .u8) w0 A0 f0.length f0
theorem IsS102.grown {w0 W : World} {g : Nat} {f0 : List Int} {f1 : Int} {f2 : Int} {W1 : World} {row : Option Nat} (h : IsS102 w0 W g f0 f1 f2) (hw : W.grownBy W1 row) (hne : some g ≠ row) : IsS102 w0 W1 g f0 f1 f2 := by
 obtain ⟨A0, c0, hb, hg, hr0⟩ := h
 exact ⟨A0, c0, blk_grown hb hw hne, hg, hr0⟩
theorem IsS102.kept {w0 W : World} {g : Nat} {f0 : List Int} {f1 : Int} {f2 : Int} {W1 : World} {S : Nat → Prop} (h : IsS102 w0 W g f0 f1 f2) (hk : Kept W W1 S) (hne : ¬ S g) : IsS102 w0 W1 g f0 f1 f2 := by
 obtain ⟨A0, c0, hb, hg, hr0⟩ := h
 exact ⟨A0, c0, blk_kept hb hk hne, hg, hr0⟩
theorem IsS102.below {w0 W : World} {g : Nat} {f0 : List Int} {f1 : Int} {f2 : Int} {W1 : World} (h : IsS102 w0 W g f0 f1 f2) (hw : Below W.heap.size W W1) : IsS102 w0 W1 g f0 f1 f2 := h.grown (grown_of_below hw none) (by simp)
theorem IsS102.alloc {w0 W : World} {g : Nat} {f0 : List Int} {f1 : Int} {f2 : Int} (h : IsS102 w0 W g f0 f1 f2) (o : Obj) : IsS102 w0 (W.alloc o) g f0 f1 f2 := h.below (ba_ (Below.refl _ _) o)
theorem IsS102.drewN {w0 W : World} {g : Nat} {f0 : List Int} {f1 : Int} {f2 : Int} (h : IsS102 w0 W g f0 f1 f2) (m : Nat) : IsS102 w0 (W.drewN m) g f0 f1 f2 := h
theorem IsS102.drew {w0 W : World} {g : Nat} {f0 : List Int} {f1 : Int} {f2 : Int} (h : IsS102 w0 W g f0 f1 f2) : IsS102 w0 W.drew g f0 f1 f2 := h
theorem IsS102.at_ {w0 W : World} {g : Nat} {f0 : List Int} {f1 : Int} {f2 : Int} {w' : World} {m : Nat} (hq : W.drewN m = w') (h : IsS102 w0 W g f0 f1 f2) : IsS102 w0 w' g f0 f1 f2 := by subst hq; exact IsS102.drewN h m
theorem IsS102.apart {w0 W : World} {g : Nat} {f0 : List Int} {f1 : Int} {f2 : Int} {α : Type} {d : Kd α} {e : Nat} {base : Nat} {ok : Nat → Prop} {v : Value} {xs : List α} (h : IsS102 w0 W g f0 f1 f2) (ho : d.R e W base ok v xs) (ht : ∀ q, q ∈ e :: d.E → q ≠ 102) : d.R e W base (fun k => ok k ∧ k ≠ g) v xs := by
 obtain ⟨A0, c0, hb, hg, hr0⟩ := h
 exact Kd.R_types ho hb ht
theorem IsS102.own_ne {w0 W : World} {g : Nat} {f0 : List Int} {f1 : Int} {f2 : Int} {α : Type} {d : Kd α} {e : Nat} {base : Nat} {ok : Nat → Prop} {v : Value} {xs : List α} (h : IsS102 w0 W g f0 f1 f2) (ho : d.R e W base ok v xs) (ht : e ≠ 102) : some g ≠ v.ownBlock := by
 obtain ⟨A0, c0, hb, hg, hr0⟩ := h
 exact Kd.R_ne ho hb ht
theorem IsS102.apartS {w0 W : World} {g : Nat} {f0 : List Int} {f1 : Int} {f2 : Int} {α : Type} {d : Kd α} {e : Nat} {base : Nat} {ok : Nat → Prop} {v : Value} {xs : List α} (h : IsS102 w0 W g f0 f1 f2) (ho : d.S e W base ok v xs) (ht : ∀ q, q ∈ e :: d.E → q ≠ 102) : d.S e W base (fun k => ok k ∧ k ≠ g) v xs := by
 obtain ⟨A0, c0, hb, hg, hr0⟩ := h
 exact Kd.S_types ho hb ht
theorem IsS102.lt {w0 W : World} {g : Nat} {f0 : List Int} {f1 : Int} {f2 : Int} (h : IsS102 w0 W g f0 f1 f2) : g < W.heap.size := by
 obtain ⟨A0, c0, hb, hg, hr0⟩ := h
 exact blk_lt hb
theorem IsS102.ge {w0 W : World} {g : Nat} {f0 : List Int} {f1 : Int} {f2 : Int} (h : IsS102 w0 W g f0 f1 f2) : w0.heap.size ≤ g := by
 obtain ⟨A0, c0, hb, hg, hr0⟩ := h
 exact hg
theorem IsS102.ne_blk {w0 W : World} {g : Nat} {f0 : List Int} {f1 : Int} {f2 : Int} {a : Nat} {cs : Array Value} {t : TypeId} {fr : Nat × Nat} (h : IsS102 w0 W g f0 f1 f2) (hb2 : W.heap[a]? = some (.cells cs t fr)) (ht : t ≠ 102) : g ≠ a := by
 obtain ⟨A0, c0, hb, hg, hr0⟩ := h
 rintro rfl
 rw [hb] at hb2
 injection hb2 with hb2
 injection hb2 with _ ht2
 exact ht ht2.symm
theorem IsS102.far {w0 W : World} {g : Nat} {f0 : List Int} {f1 : Int} {f2 : Int} {p : Addr} (h : IsS102 w0 W g f0 f1 f2) (hne : g ≠ p.block) (u : Value) : IsS102 w0 (W.setCell p u) g f0 f1 f2 := by
 obtain ⟨A0, c0, hb, hg, hr0⟩ := h
 exact ⟨A0, c0, blk_far hb hne u, hg, hr0⟩
theorem cellS102_0 {W : World} {g : Nat} {A0 : Option Addr} {c0 : Nat} {f0 : List Int} {f1 : Int} {f2 : Int} (h : W.heap[g]? = some (.cells #[.slice A0 f0.length c0, .int .i64 f1, .int .i64 f2] 102 (0, 0))) : W.cell? ⟨g, 0, none⟩ = some (.slice A0 f0.length c0) := (blk_cell h 0).trans rfl
theorem cellS102_1 {W : World} {g : Nat} {A0 : Option Addr} {c0 : Nat} {f0 : List Int} {f1 : Int} {f2 : Int} (h : W.heap[g]? = some (.cells #[.slice A0 f0.length c0, .int .i64 f1, .int .i64 f2] 102 (0, 0))) : W.cell? ⟨g, 1, none⟩ = some (.int .i64 f1) := (blk_cell h 1).trans rfl
theorem IsS102.set_1 {w0 W : World} {g : Nat} {f0 : List Int} {f1 : Int} {f2 : Int} (h : IsS102 w0 W g f0 f1 f2) (x : Int) : IsS102 w0 (W.setCell ⟨g, 1, none⟩ (.int .i64 x)) g f0 x f2 := by
 obtain ⟨A0, c0, hb, hg, hr0⟩ := h
 exact ⟨A0, c0, by simpa using blk_set hb 1 (.int .i64 x), hg, hr0⟩
theorem cellS102_2 {W : World} {g : Nat} {A0 : Option Addr} {c0 : Nat} {f0 : List Int} {f1 : Int} {f2 : Int} (h : W.heap[g]? = some (.cells #[.slice A0 f0.length c0, .int .i64 f1, .int .i64 f2] 102 (0, 0))) : W.cell? ⟨g, 2, none⟩ = some (.int .i64 f2) := (blk_cell h 2).trans rfl
theorem IsS102.set_2 {w0 W : World} {g : Nat} {f0 : List Int} {f1 : Int} {f2 : Int} (h : IsS102 w0 W g f0 f1 f2) (x : Int) : IsS102 w0 (W.setCell ⟨g, 2, none⟩ (.int .i64 x)) g f0 f1 x := by
 obtain ⟨A0, c0, hb, hg, hr0⟩ := h
 exact ⟨A0, c0, by simpa using blk_set hb 2 (.int .i64 x), hg, hr0⟩
theorem IsS102.new (w0 W : World) (A0 : Option Addr) (c0 : Nat) (f0 : List Int) (f1 : Int) (f2 : Int) (hB : Below w0.heap.size w0 W) (hr0 : Kd.C (Kd.int .u8) w0 A0 f0.length f0) : IsS102 w0 (W.alloc (.cells #[.slice A0 f0.length c0, .int .i64 f1, .int .i64 f2] 102)) W.heap.size f0 f1 f2 := ⟨A0, c0, by simpa using heap_alloc_new W _, hB.size, hr0⟩
theorem IsS102.pk_ {w0 w W : World} {g : Nat} {f0 : List Int} {f1 : Int} {f2 : Int} [hp : Bq_ w W g] (h : IsS102 w0 w g f0 f1 f2) : IsS102 w0 W g f0 f1 f2 := by
  obtain ⟨A0, c0, h1, h2⟩ := h
  exact ⟨A0, c0, hp.go _ h1, h2⟩
theorem IsS102.bk_ {w0 w W w1 : World} {g : Nat} {f0 : List Int} {f1 : Int} {f2 : Int} [hp : Bq_ w W g] (h : Aside0 (IsS102 w0 w g f0 f1 f2)) (hb : Below W.heap.size W w1) : Aside0 (IsS102 w0 w1 g f0 f1 f2) := ⟨IsS102.below (IsS102.pk_ h.out) hb⟩
theorem IsS102.nl_ {w0 w W : World} {g x : Nat} {f0 : List Int} {f1 : Int} {f2 : Int} [hp : Bq_ w W g] (h : Aside0 (IsS102 w0 w g f0 f1 f2)) (hg : x = W.heap.size) : Ne_ g x := ⟨by rw [hg]; exact Nat.ne_of_lt (IsS102.lt (IsS102.pk_ h.out))⟩
theorem IsS102.ng_ {w0 w W : World} {g x : Nat} {f0 : List Int} {f1 : Int} {f2 : Int} [hp : Bq_ w W g] (h : Aside0 (IsS102 w0 w g f0 f1 f2)) (hg : x = W.heap.size) : Ne_ x g := ⟨by rw [hg]; exact Nat.ne_of_gt (IsS102.lt (IsS102.pk_ h.out))⟩
theorem IsS102.rk_ {w0 w W w1 : World} {g : Nat} {f0 : List Int} {f1 : Int} {f2 : Int} {α : Type} {d : Kd α} {e base : Nat} {ok : Nat → Prop} {v : Value} {xs : List α} [hp : Bq_ w W g] [hq : Pk_ W w] (h : Aside0 (IsS102 w0 w g f0 f1 f2)) (ho : Aside0 (Kd.R d e w base ok v xs)) (hk : KeepBut W w1 g none) (ht : ∀ q, q ∈ e :: d.E → q ≠ 102 := by decide) : Aside0 (Kd.R d e w1 base ok v xs) := ⟨Kd.R_mono (Kd.R_keep (IsS102.apart (IsS102.pk_ h.out) (rp_ ho.out) ht) hk (fun _ h => h.2)) (fun _ h => h.1)⟩
theorem IsS102.sk_ {w0 w W w1 : World} {g : Nat} {f0 : List Int} {f1 : Int} {f2 : Int} {α : Type} {d : Kd α} {e base : Nat} {ok : Nat → Prop} {v : Value} {xs : List α} [hp : Bq_ w W g] [hq : Pk_ W w] (h : Aside0 (IsS102 w0 w g f0 f1 f2)) (ho : Aside0 (Kd.S d e w base ok v xs)) (hk : KeepBut W w1 g none) (ht : ∀ q, q ∈ e :: d.E → q ≠ 102 := by decide) : Aside0 (Kd.S d e w1 base ok v xs) := ⟨Kd.S_mono (Kd.S_keep (IsS102.apartS (IsS102.pk_ h.out) (sp_ ho.out) ht) hk (fun _ h => h.2)) (fun _ h => h.1)⟩

def spec_l1New.l0 : Nat → List Int → Int → Int → Option (List Int × Int × Int)
 | 0, _, _, _ => none
 | k + 1, x0, x3, x4 => if x4 < (x0.length : Int) then (if x4 < 4000 then (if 0 ≤ x4 then (spec_l1New.l0 k x0 (Go.bits .and .i64 (wrap64 ((wrap64 ((wrap64 (x3 * 137)) + (wrap64 (rd x0 x4)))) + 11)) 1073741823) (wrap64 (x4 + 1))) else (none)) else (some (x0, 0, x3))) else (some (x0, 0, x3))
def spec_l1New.f (k : Nat) (l0 : List Int) : Option (List Int × Int × Int) := spec_l1New.l0 k l0 (wrap64 (140873 + (l0.length : Int))) 0
theorem spec_l1New.calls (k : Nat) (I : Option Addr) (J : Nat) (l0 : List Int) (K : List Int) (L : Int) (M : Int) (p w : World) (hB : Below p.heap.size p w) (x : Kd.C (Kd.int .u8) p I l0.length l0) (y : l0.length ≤ J) (h : spec_l1New.f k l0 = some (K, L, M)) :
  Calls Tryz.prog 50 #[.slice I l0.length J] w fun e w' => ∃ g_ : Nat, e = .returned (.pointer (some ⟨g_, 0, none⟩)) ∧ IsS102 p w' g_ K L M ∧ Below p.heap.size p w' ∧ Below w.heap.size w w' := by
 have hu102 := Tryz.underlying102
 have r := Aside0.mk x
 have Q := Aside0.mk y
 clear x y
 have a := Aside0.mk (Below.refl w.heap.size w)
 have z := Aside0.mk hB.size
 have q := Aside0.mk hB
 clear hB
 have H : (spec_l1New.l0 k l0 (wrap64 (140873 + (l0.length : Int))) 0) = some (K, L, M) := h
 clear h
 have H' := Aside0.mk H
 clear H
 go_enter Tryz.func50, Tryz.ntmps50
 go_wp2
 go_loopg [3, 4] k (fun kq R S w' => ∃ (c : Int) (b : Int), R = .int .i64 c ∧ S = .int .i64 b ∧ Aside0 (spec_l1New.l0 kq l0 c b = some (K, L, M)) ∧ Aside0 (kq ≤ k) ∧ Aside0 (Below w.heap.size w w') ∧ Aside0 (Below p.heap.size p w'))
 case atStart => exact ⟨(wrap64 (140873 + (l0.length : Int))), (0), rs_, rs_, H', ⟨Nat.le_refl _⟩, ⟨by repeat (first | (with_reducible first | exact a.out | apply ba_ | apply bn_ | apply bd_) | exact a.out)⟩, ⟨hs_ q.out⟩⟩
 case round =>
  clear H'
  obtain ⟨c, b, rfl, rfl, N, A, a, q⟩ := hrel
  cases gk with
  | zero => exact absurd N.out (by simp [spec_l1New.l0])
  | succ T =>
   have H := N.out
   clear N
   simp only [spec_l1New.l0] at H
   replace H := ie_ H; rcases H with ⟨B, H⟩ | ⟨B, H⟩
   ·
    have D := decide_eq_true B
    clear B
    replace H := ie_ H; rcases H with ⟨E, H⟩ | ⟨E, H⟩
    ·
     have F := decide_eq_true E
     clear E
     replace H := id_ H; obtain ⟨P, H⟩ := H
     have H' := Aside0.mk H
     clear H
     obtain ⟨i, j⟩ : 0 ≤ (b : Int) ∧ b < (l0.length : Int) := pq_
     obtain ⟨O, G, d⟩ := Kd.at_int r.out b i j
     cases G
     replace d := pw_cell_below q.out d
     replace i := eq_true i; replace j := eq_true j
     go_wp2
     go_roundg T
     case measure => have := A.out; omega
     case rel => exact ⟨(Go.bits .and .i64 (wrap64 ((wrap64 ((wrap64 (c * 137)) + (wrap64 (rd l0 b)))) + 11)) 1073741823), (wrap64 (b + 1)), rs_, rs_, H', ⟨by have := A.out; omega⟩, ⟨by repeat (first | (with_reducible first | exact a.out | apply ba_ | apply bn_ | apply bd_) | exact a.out)⟩, ⟨hs_ q.out⟩⟩
    have F : decide (b < 4000) = false := decide_eq_false E
    clear E
    simp only [Option.some.injEq, Prod.mk.injEq] at H
    obtain ⟨rfl, rfl, rfl⟩ := H
    go_wp2_with (first | ((with_reducible refine gd_ 31 rfl ?_); refine bv_ 31 #[.slice I l0.length J, .int .i64 0, .int .i64 c] 102 ?_; intro l hg U g hb; replace q := st_ q hb; have s := Aside0.mk (g); have m := Ge_.mk ((by rw [hg]; exact (below_size (by repeat (first | (with_reducible first | exact a.out | apply ba_ | apply bn_ | apply bd_) | exact a.out))) : w.heap.size ≤ l)); replace a := Aside0.mk (below_step a.out hb); have t := gt_ z m; clear hb g hg))
    go_ret
    exact ⟨_, rfl, (show IsS102 p _ l l0 0 c from ⟨_, _, by (with_reducible repeat (first | refine kn_ ?_ _ | refine kd_ ?_ | refine ka_ ?_ _)); exact s.out, t.out, r.out⟩), hs_ q.out, by repeat (first | (with_reducible first | exact a.out | apply ba_ | apply bn_ | apply bd_ | apply bs_ m) | exact a.out)⟩
   have D : decide (b < (l0.length : Int)) = false := decide_eq_false B
   clear B
   simp only [Option.some.injEq, Prod.mk.injEq] at H
   obtain ⟨rfl, rfl, rfl⟩ := H
   go_wp2_with (first | ((with_reducible refine gd_ 31 rfl ?_); refine bv_ 31 #[.slice I l0.length J, .int .i64 0, .int .i64 c] 102 ?_; intro n hg V g hb; replace q := st_ q hb; have u := Aside0.mk (g); have o := Ge_.mk ((by rw [hg]; exact (below_size (by repeat (first | (with_reducible first | exact a.out | apply ba_ | apply bn_ | apply bd_) | exact a.out))) : w.heap.size ≤ n)); replace a := Aside0.mk (below_step a.out hb); have v := gt_ z o; clear hb g hg))
   go_ret
   exact ⟨_, rfl, (show IsS102 p _ n l0 0 c from ⟨_, _, by (with_reducible repeat (first | refine kn_ ?_ _ | refine kd_ ?_ | refine ka_ ?_ _)); exact u.out, v.out, r.out⟩), hs_ q.out, by repeat (first | (with_reducible first | exact a.out | apply ba_ | apply bn_ | apply bd_ | apply bs_ o) | exact a.out)⟩
def spec_l1Byte.f (s0_0 : List Int) (s0_1 : Int) (s0_2 : Int) : Option (Int × Int × Int) := if s0_1 < (s0_0.length : Int) then (if 0 ≤ s0_1 then (some (Go.bits .and .i64 (wrap64 ((Go.bits .and .i64 (Go.bits .xor .i64 ((wrap64 ((wrap64 (s0_2 * 6364136223846793005)) + 1442695040888963407)) / 8589934592) ((wrap64 ((wrap64 (s0_2 * 6364136223846793005)) + 1442695040888963407)) / 140737488355328)) 255) + (wrap64 (rd s0_0 s0_1)))) 255, wrap64 (s0_1 + 1), wrap64 ((wrap64 (s0_2 * 6364136223846793005)) + 1442695040888963407))) else (none)) else (some (Go.bits .and .i64 (Go.bits .xor .i64 ((wrap64 ((wrap64 (s0_2 * 6364136223846793005)) + 1442695040888963407)) / 8589934592) ((wrap64 ((wrap64 (s0_2 * 6364136223846793005)) + 1442695040888963407)) / 140737488355328)) 255, s0_1, wrap64 ((wrap64 (s0_2 * 6364136223846793005)) + 1442695040888963407)))
theorem spec_l1Byte.calls (g : Nat) (d : List Int) (b : Int) (c : Int) (t : Int) (u : Int) (v : Int) (m w : World) (hI : IsS102 m w g d b c) (hB : Below m.heap.size m w) (h : spec_l1Byte.f d b c = some (t, u, v)) :
  Calls Tryz.prog 104 #[.pointer (some ⟨g, 0, none⟩)] w fun e w' => e = .returned (.int .i64 t) ∧ IsS102 m w' g d u v ∧ Below m.heap.size m w' ∧ KeepBut w w' g none := by
 have i := Aside0.mk hI
 have HK := Aside0.mk (KeepBut.refl w g none)
 have HL := Aside0.mk hB.size
 clear hI
 have J := Aside0.mk hB.size
 have n := Aside0.mk hB
 clear hB
 have H : (if b < (d.length : Int) then (if 0 ≤ b then (some (Go.bits .and .i64 (wrap64 ((Go.bits .and .i64 (Go.bits .xor .i64 ((wrap64 ((wrap64 (c * 6364136223846793005)) + 1442695040888963407)) / 8589934592) ((wrap64 ((wrap64 (c * 6364136223846793005)) + 1442695040888963407)) / 140737488355328)) 255) + (wrap64 (rd d b)))) 255, wrap64 (b + 1), wrap64 ((wrap64 (c * 6364136223846793005)) + 1442695040888963407))) else (none)) else (some (Go.bits .and .i64 (Go.bits .xor .i64 ((wrap64 ((wrap64 (c * 6364136223846793005)) + 1442695040888963407)) / 8589934592) ((wrap64 ((wrap64 (c * 6364136223846793005)) + 1442695040888963407)) / 140737488355328)) 255, b, wrap64 ((wrap64 (c * 6364136223846793005)) + 1442695040888963407)))) = some (t, u, v) := h
 clear h
 replace H := ie_ H; rcases H with ⟨o, H⟩ | ⟨o, H⟩
 ·
  have q := decide_eq_true o
  clear o
  replace H := id_ H; obtain ⟨x, H⟩ := H
  simp only [Option.some.injEq, Prod.mk.injEq] at H
  obtain ⟨rfl, rfl, rfl⟩ := H
  obtain ⟨ASz4_0, cSz4_0, HGz4, hgz4, HSz4_0⟩ := i.out
  have y := cellS102_0 HGz4
  have z := cellS102_1 HGz4
  have A := cellS102_2 HGz4
  have B := blk_frozen HGz4 1
  have C := blk_frozen HGz4 2
  clear HGz4 hgz4
  obtain ⟨j, k⟩ : 0 ≤ (b : Int) ∧ b < (d.length : Int) := pq_
  obtain ⟨l, r, a⟩ := Kd.at_int HSz4_0 b j k
  cases r
  have hn137_0 : l.block ≠ g := Nat.ne_of_lt (Nat.lt_of_lt_of_le (by have := World.block_lt_of_cell? _ _ a; first | rwa [add_block] at this | exact this) (IsS102.ge i.out))
  replace a := pw_cell_below n.out a
  replace a := (cell_far (p := ⟨g, 2, none⟩) (by first | (rw [add_block]; exact hn137_0) | (show (Addr.add _ _).block ≠ _; rw [add_block]; exact hn137_0) | exact hn137_0) (.int .i64 (wrap64 ((wrap64 (c * 6364136223846793005)) + 1442695040888963407)))).trans a
  (try have s := fun (n_ : Nat) => (show (((w.drewN n_).setCell ⟨g, 2, none⟩ (.int .i64 (wrap64 ((wrap64 (c * 6364136223846793005)) + 1442695040888963407))))).cell? _ = some _ from a))
  clear hn137_0
  replace j := eq_true j; replace k := eq_true k
  go_enter Tryz.func104, Tryz.ntmps104
  go_wp2
  repeat (go_quiet (fail); try go_wp2)
  go_ret
  exact an_ ⟨by repeat (first | (with_reducible first | exact i.out | apply IsS102.alloc | apply IsS102.drewN | apply IsS102.drew | apply IsS102.set_1 | apply IsS102.set_2) | exact i.out), by repeat (first | (with_reducible first | exact n.out | apply ba_ | apply bn_ | apply bd_ | refine below_set ?_ (IsS102.ge i.out)) | exact n.out), by repeat (first | (with_reducible first | exact HK.out | apply KeepBut.set_ | apply keep_drewN | apply keep_drew | apply keep_alloc) | exact HK.out)⟩
 have q : decide (b < (d.length : Int)) = false := decide_eq_false o
 clear o
 simp only [Option.some.injEq, Prod.mk.injEq] at H
 obtain ⟨rfl, rfl, rfl⟩ := H
 obtain ⟨ASz5_0, cSz5_0, HGz5, hgz5, HSz5_0⟩ := i.out
 have D := cellS102_0 HGz5
 have E := cellS102_1 HGz5
 have F := cellS102_2 HGz5
 have G := blk_frozen HGz5 1
 have I := blk_frozen HGz5 2
 clear HGz5 hgz5
 go_enter Tryz.func104, Tryz.ntmps104
 go_wp2
 repeat (go_quiet (fail); try go_wp2)
 go_ret
 exact an_ ⟨by repeat (first | (with_reducible first | exact i.out | apply IsS102.alloc | apply IsS102.drewN | apply IsS102.drew | apply IsS102.set_1 | apply IsS102.set_2) | exact i.out), by repeat (first | (with_reducible first | exact n.out | apply ba_ | apply bn_ | apply bd_ | refine below_set ?_ (IsS102.ge i.out)) | exact n.out), by repeat (first | (with_reducible first | exact HK.out | apply KeepBut.set_ | apply keep_drewN | apply keep_drew | apply keep_alloc) | exact HK.out)⟩
def spec_l1Below.f (s0_0 : List Int) (s0_1 : Int) (s0_2 : Int) (a1 : Int) : Option (Int × Int × Int) := if a1 ≤ 0 then (some (0, s0_1, s0_2)) else (if a1 ≤ 256 then ((spec_l1Byte.f s0_0 s0_1 s0_2).bind fun bt138 => (if a1 = 0 then (none) else (some (Int.tmod bt138.1 a1, bt138.2.1, bt138.2.2)))) else ((spec_l1Byte.f s0_0 s0_1 s0_2).bind fun bt141 => ((spec_l1Byte.f s0_0 bt141.2.1 bt141.2.2).bind fun bt144 => ((spec_l1Byte.f s0_0 bt144.2.1 bt144.2.2).bind fun bt147 => (if a1 = 0 then (none) else (some (Int.tmod (wrap64 ((wrap64 ((wrap64 (bt141.1 * 65536)) + (wrap64 (bt144.1 * 256)))) + bt147.1)) a1, bt147.2.1, bt147.2.2)))))))
theorem spec_l1Below.calls (g : Nat) (a : List Int) (b : Int) (c : Int) (i : Int) (D : Int) (E : Int) (F : Int) (k w : World) (hI : IsS102 k w g a b c) (hB : Below k.heap.size k w) (h : spec_l1Below.f a b c i = some (D, E, F)) :
  Calls Tryz.prog 69 #[.pointer (some ⟨g, 0, none⟩), .int .i64 i] w fun e w' => e = .returned (.int .i64 D) ∧ IsS102 k w' g a E F ∧ Below k.heap.size k w' ∧ KeepBut w w' g none := by
 have d := Aside0.mk hI
 have HK := Aside0.mk (KeepBut.refl w g none)
 have HL := Aside0.mk hB.size
 clear hI
 have N := Aside0.mk hB.size
 have j := Aside0.mk hB
 clear hB
 have H : (if i ≤ 0 then (some (0, b, c)) else (if i ≤ 256 then ((spec_l1Byte.f a b c).bind fun bt138 => (if i = 0 then (none) else (some (Int.tmod bt138.1 i, bt138.2.1, bt138.2.2)))) else ((spec_l1Byte.f a b c).bind fun bt141 => ((spec_l1Byte.f a bt141.2.1 bt141.2.2).bind fun bt144 => ((spec_l1Byte.f a bt144.2.1 bt144.2.2).bind fun bt147 => (if i = 0 then (none) else (some (Int.tmod (wrap64 ((wrap64 ((wrap64 (bt141.1 * 65536)) + (wrap64 (bt144.1 * 256)))) + bt147.1)) i, bt147.2.1, bt147.2.2)))))))) = some (D, E, F) := h
 clear h
 replace H := ie_ H; rcases H with ⟨p, H⟩ | ⟨p, H⟩
 ·
  have q := decide_eq_true p
  clear p
  simp only [Option.some.injEq, Prod.mk.injEq] at H
  obtain ⟨rfl, rfl, rfl⟩ := H
  go_enter Tryz.func69, Tryz.ntmps69
  go_wp2
  go_ret
  exact an_ ⟨IsS102.pk_ d.out, hs_ j.out, ku_ HK.out⟩
 have q : decide (i ≤ 0) = false := decide_eq_false p
 clear p
 replace H := ie_ H; rcases H with ⟨r, H⟩ | ⟨r, H⟩
 ·
  have s := decide_eq_true r
  clear r
  replace H := bi_ H; obtain ⟨⟨t, u, v⟩, O, H⟩ := H; (try dsimp only at H)
  replace H := io_ H; obtain ⟨K, H⟩ := H
  have L : (i == 0) = false := beq_eq_false_iff_ne.mpr K
  have M : (i != 0) = true := bne_iff_ne.mpr K
  simp only [Option.some.injEq, Prod.mk.injEq] at H
  obtain ⟨rfl, rfl, rfl⟩ := H
  go_enter Tryz.func69, Tryz.ntmps69
  go_wp2_with (first | ((with_reducible refine gate_callee (f := 104) rfl ?_); refine gl_ (some 13) Tryz.func104 #[.pointer (some ⟨g, 0, none⟩)] ?_; (with_reducible refine (spec_l1Byte.calls g a b c t u v k _ ?side1 ?side2 O.out).mono ?_); (case side1 => exact IsS102.pk_ d.out); (case side2 => exact hs_ j.out); rintro e U ⟨rfl, hi, hb, hk⟩; refine ⟨_, rfl, ?_⟩; replace HK := kh_ HK hk; replace j := Aside0.mk (hb); replace d := Aside0.mk (hi); (try clear hb); (try clear hk); (try clear hi)))
  go_ret
  exact an_ ⟨IsS102.pk_ d.out, hs_ j.out, ku_ HK.out⟩
 have s : decide (i ≤ 256) = false := decide_eq_false r
 clear r
 replace H := bi_ H; obtain ⟨⟨x, l, m⟩, P, H⟩ := H; (try dsimp only at H)
 replace H := bi_ H; obtain ⟨⟨y, n, o⟩, Q, H⟩ := H; (try dsimp only at H)
 replace H := bi_ H; obtain ⟨⟨z, A, B⟩, G, H⟩ := H; (try dsimp only at H)
 replace H := io_ H; obtain ⟨C, H⟩ := H
 have I : (i == 0) = false := beq_eq_false_iff_ne.mpr C
 have J : (i != 0) = true := bne_iff_ne.mpr C
 simp only [Option.some.injEq, Prod.mk.injEq] at H
 obtain ⟨rfl, rfl, rfl⟩ := H
 go_enter Tryz.func69, Tryz.ntmps69
 go_wp2_with (first | ((with_reducible refine gate_callee (f := 104) rfl ?_); refine gl_ (some 17) Tryz.func104 #[.pointer (some ⟨g, 0, none⟩)] ?_; (with_reducible refine (spec_l1Byte.calls g a b c x l m k _ ?side1 ?side2 P.out).mono ?_); (case side1 => exact IsS102.pk_ d.out); (case side2 => exact hs_ j.out); rintro e R ⟨rfl, hi, hb, hk⟩; refine ⟨_, rfl, ?_⟩; replace HK := kh_ HK hk; replace j := Aside0.mk (hb); replace d := Aside0.mk (hi); (try clear hb); (try clear hk); (try clear hi)) | ((with_reducible refine gate_callee (f := 104) rfl ?_); refine gl_ (some 19) Tryz.func104 #[.pointer (some ⟨g, 0, none⟩)] ?_; (with_reducible refine (spec_l1Byte.calls g a l m y n o k _ ?side1 ?side2 Q.out).mono ?_); (case side1 => exact IsS102.pk_ d.out); (case side2 => exact hs_ j.out); rintro e S ⟨rfl, hi, hb, hk⟩; refine ⟨_, rfl, ?_⟩; replace HK := kh_ HK hk; replace j := Aside0.mk (hb); replace d := Aside0.mk (hi); (try clear hb); (try clear hk); (try clear hi)) | ((with_reducible refine gate_callee (f := 104) rfl ?_); refine gl_ (some 21) Tryz.func104 #[.pointer (some ⟨g, 0, none⟩)] ?_; (with_reducible refine (spec_l1Byte.calls g a n o z A B k _ ?side1 ?side2 G.out).mono ?_); (case side1 => exact IsS102.pk_ d.out); (case side2 => exact hs_ j.out); rintro e T ⟨rfl, hi, hb, hk⟩; refine ⟨_, rfl, ?_⟩; replace HK := kh_ HK hk; replace j := Aside0.mk (hb); replace d := Aside0.mk (hi); (try clear hb); (try clear hk); (try clear hi)))
 go_ret
 exact an_ ⟨IsS102.pk_ d.out, hs_ j.out, ku_ HK.out⟩
def spec_l1Int.f (s0_0 : List Int) (s0_1 : Int) (s0_2 : Int) (l1 : List Int) : Option (Int × Int × Int) := (spec_l1Below.f s0_0 s0_1 s0_2 (l1.length : Int)).bind fun bt150 => (if 0 ≤ bt150.1 then (if bt150.1 < (l1.length : Int) then (some (rd l1 bt150.1, bt150.2.1, bt150.2.2)) else (none)) else (none))
theorem spec_l1Int.calls (g : Nat) (a : List Int) (c : Int) (d : Int) (u : Option Addr) (B : Nat) (j : List Int) (v : Int) (x : Int) (y : Int) (m w : World) (hI : IsS102 m w g a c d) (hB : Below m.heap.size m w) (p : Kd.C (Kd.int .i64) w u j.length j) (q : j.length ≤ B) (hf1 : ∀ ad, u = some ad → 0 < j.length → ad.block ≠ g) (h : spec_l1Int.f a c d j = some (v, x, y)) :
  Calls Tryz.prog 66 #[.pointer (some ⟨g, 0, none⟩), .slice u j.length B] w fun e w' => e = .returned (.int .i64 v) ∧ IsS102 m w' g a x y ∧ Below m.heap.size m w' ∧ KeepBut w w' g none := by
 have z := Aside0.mk p
 have F := Aside0.mk q
 clear p q
 have n := Aside0.mk hI
 have HK := Aside0.mk (KeepBut.refl w g none)
 have HL := Aside0.mk hB.size
 clear hI
 have G := Aside0.mk hB.size
 have A := Aside0.mk hB
 clear hB
 have H : ((spec_l1Below.f a c d (j.length : Int)).bind fun bt150 => (if 0 ≤ bt150.1 then (if bt150.1 < (j.length : Int) then (some (rd j bt150.1, bt150.2.1, bt150.2.2)) else (none)) else (none))) = some (v, x, y) := h
 clear h
 replace H := bi_ H; obtain ⟨⟨i, r, s⟩, I, H⟩ := H; (try dsimp only at H)
 replace H := id_ H; obtain ⟨D, H⟩ := H
 replace H := id_ H; obtain ⟨E, H⟩ := H
 simp only [Option.some.injEq, Prod.mk.injEq] at H
 obtain ⟨rfl, rfl, rfl⟩ := H
 go_enter Tryz.func66, Tryz.ntmps66
 go_wp2_with (first | ((with_reducible refine gate_callee (f := 69) rfl ?_); refine gl_ (some 9) Tryz.func69 #[.pointer (some ⟨g, 0, none⟩), .int .i64 (j.length : Int)] ?_; (with_reducible refine (spec_l1Below.calls g a c d (j.length : Int) i r s m _ ?side1 ?side2 I.out).mono ?_); (case side1 => exact IsS102.pk_ n.out); (case side2 => exact hs_ A.out); rintro e J ⟨rfl, hi, hb, hk⟩; refine ⟨_, rfl, ?_⟩; replace HK := kh_ HK hk; replace A := Aside0.mk (hb); replace n := Aside0.mk (hi); (try clear hb); (try clear hk); (try clear hi); have k : 0 ≤ (i : Int) := of_decide_eq_true (by with_reducible assumption); have l : i < (j.length : Int) := of_decide_eq_true (by with_reducible assumption); obtain ⟨o, t, b⟩ := Kd.at_int z.out i k l; cases t; replace b := keep_cell HK.out b (by first | (rw [add_block]; exact hf1 _ rfl (by omega)) | exact hf1 _ rfl (by omega) | exact hf1 o rfl (by omega)); replace k := eq_true k; replace l := eq_true l))
 go_ret
 exact an_ ⟨IsS102.pk_ n.out, hs_ A.out, ku_ HK.out⟩
def spec_l1Once.f (s0_0 : List Int) (s0_1 : Int) (s0_2 : Int) (a1 : Int) : Option (Bool × Int × Int) := (spec_l1Below.f s0_0 s0_1 s0_2 a1).bind fun bt289 => (some ((bt289.1 == 0), bt289.2.1, bt289.2.2))
theorem spec_l1Once.calls (g : Nat) (a : List Int) (b : Int) (c : Int) (j : Int) (n : Bool) (o : Int) (p : Int) (d w : World) (hI : IsS102 d w g a b c) (hB : Below d.heap.size d w) (h : spec_l1Once.f a b c j = some (n, o, p)) :
  Calls Tryz.prog 70 #[.pointer (some ⟨g, 0, none⟩), .int .i64 j] w fun e w' => e = .returned (.bool n) ∧ IsS102 d w' g a o p ∧ Below d.heap.size d w' ∧ KeepBut w w' g none := by
 have i := Aside0.mk hI
 have HK := Aside0.mk (KeepBut.refl w g none)
 have HL := Aside0.mk hB.size
 clear hI
 have r := Aside0.mk hB.size
 have q := Aside0.mk hB
 clear hB
 have H : ((spec_l1Below.f a b c j).bind fun bt289 => (some ((bt289.1 == 0), bt289.2.1, bt289.2.2))) = some (n, o, p) := h
 clear h
 replace H := bi_ H; obtain ⟨⟨k, l, m⟩, s, H⟩ := H; (try dsimp only at H)
 simp only [Option.some.injEq, Prod.mk.injEq] at H
 obtain ⟨rfl, rfl, rfl⟩ := H
 go_enter Tryz.func70, Tryz.ntmps70
 go_wp2_with (first | ((with_reducible refine gate_callee (f := 69) rfl ?_); refine gl_ (some 7) Tryz.func69 #[.pointer (some ⟨g, 0, none⟩), .int .i64 j] ?_; (with_reducible refine (spec_l1Below.calls g a b c j k l m d _ ?side1 ?side2 s.out).mono ?_); (case side1 => exact IsS102.pk_ i.out); (case side2 => exact hs_ q.out); rintro e t ⟨rfl, hi, hb, hk⟩; refine ⟨_, rfl, ?_⟩; replace HK := kh_ HK hk; replace q := Aside0.mk (hb); replace i := Aside0.mk (hi); (try clear hb); (try clear hk); (try clear hi)))
 go_ret
 exact an_ ⟨IsS102.pk_ i.out, hs_ q.out, ku_ HK.out⟩
def spec_l1Str.f (s0_0 : List Int) (s0_1 : Int) (s0_2 : Int) (l1 : List ByteArray) : Option (ByteArray × Int × Int) := (spec_l1Below.f s0_0 s0_1 s0_2 (l1.length : Int)).bind fun bt292 => (if 0 ≤ bt292.1 then (if bt292.1 < (l1.length : Int) then (some (rdOf ByteArray.empty l1 bt292.1, bt292.2.1, bt292.2.2)) else (none)) else (none))
theorem spec_l1Str.calls (g : Nat) (a : List Int) (c : Int) (d : Int) (u : Option Addr) (B : Nat) (j : List ByteArray) (v : ByteArray) (x : Int) (y : Int) (m w : World) (hI : IsS102 m w g a c d) (hB : Below m.heap.size m w) (p : Kd.C Kd.string w u j.length j) (q : j.length ≤ B) (hf1 : ∀ ad, u = some ad → 0 < j.length → ad.block ≠ g) (h : spec_l1Str.f a c d j = some (v, x, y)) :
  Calls Tryz.prog 112 #[.pointer (some ⟨g, 0, none⟩), .slice u j.length B] w fun e w' => e = .returned (.string v) ∧ IsS102 m w' g a x y ∧ Below m.heap.size m w' ∧ KeepBut w w' g none := by
 have z := Aside0.mk p
 have F := Aside0.mk q
 clear p q
 have n := Aside0.mk hI
 have HK := Aside0.mk (KeepBut.refl w g none)
 have HL := Aside0.mk hB.size
 clear hI
 have G := Aside0.mk hB.size
 have A := Aside0.mk hB
 clear hB
 have H : ((spec_l1Below.f a c d (j.length : Int)).bind fun bt292 => (if 0 ≤ bt292.1 then (if bt292.1 < (j.length : Int) then (some (rdOf ByteArray.empty j bt292.1, bt292.2.1, bt292.2.2)) else (none)) else (none))) = some (v, x, y) := h
 clear h
 replace H := bi_ H; obtain ⟨⟨i, r, s⟩, I, H⟩ := H; (try dsimp only at H)
 replace H := id_ H; obtain ⟨D, H⟩ := H
 replace H := id_ H; obtain ⟨E, H⟩ := H
 simp only [Option.some.injEq, Prod.mk.injEq] at H
 obtain ⟨rfl, rfl, rfl⟩ := H
 go_enter Tryz.func112, Tryz.ntmps112
 go_wp2_with (first | ((with_reducible refine gate_callee (f := 69) rfl ?_); refine gl_ (some 9) Tryz.func69 #[.pointer (some ⟨g, 0, none⟩), .int .i64 (j.length : Int)] ?_; (with_reducible refine (spec_l1Below.calls g a c d (j.length : Int) i r s m _ ?side1 ?side2 I.out).mono ?_); (case side1 => exact IsS102.pk_ n.out); (case side2 => exact hs_ A.out); rintro e J ⟨rfl, hi, hb, hk⟩; refine ⟨_, rfl, ?_⟩; replace HK := kh_ HK hk; replace A := Aside0.mk (hb); replace n := Aside0.mk (hi); (try clear hb); (try clear hk); (try clear hi); have k : 0 ≤ (i : Int) := of_decide_eq_true (by with_reducible assumption); have l : i < (j.length : Int) := of_decide_eq_true (by with_reducible assumption); obtain ⟨o, t, b⟩ := Kd.at_string z.out i k l; cases t; replace b := keep_cell HK.out b (by first | (rw [add_block]; exact hf1 _ rfl (by omega)) | exact hf1 _ rfl (by omega) | exact hf1 o rfl (by omega)); replace k := eq_true k; replace l := eq_true l))
 go_ret
 exact an_ ⟨IsS102.pk_ n.out, hs_ A.out, ku_ HK.out⟩
def spec_l2Draw.l0 : Nat → List (S99) → List ByteArray → Int → Int → List Int → Int → Int → Option ((List (S99)) × Int × Int)
 | 0, _, _, _, _, _, _, _ => none
 | k + 1, x3, x11, x12, x13, x1000, x1001, x1002 => if x13 < x12 then (if 0 ≤ x13 then (if x13 < (x11.length : Int) then ((spec_l1Once.f x1000 x1001 x1002 4).bind fun bt309 => (if bt309.1 = true then ((spec_l1Str.f x1000 bt309.2.1 bt309.2.2 (([(⟨#[49]⟩ : ByteArray), (⟨#[50]⟩ : ByteArray)] : List ByteArray))).bind fun bt315 => (if x3.length < 4398046511104 then (spec_l2Draw.l0 k (x3 ++ [(⟨rdOf ByteArray.empty x11 x13, bt315.1⟩ : S99)]) x11 x12 (wrap64 (x13 + 1)) x1000 bt315.2.1 bt315.2.2) else (none))) else (spec_l2Draw.l0 k x3 x11 x12 (wrap64 (x13 + 1)) x1000 bt309.2.1 bt309.2.2))) else (none)) else (none)) else (some (x3, x1001, x1002))
def spec_l2Draw.f (k : Nat) (s0_0 : List Int) (s0_1 : Int) (s0_2 : Int) : Option ((List (S99)) × Int × Int) := (spec_l1Str.f s0_0 s0_1 s0_2 (([(⟨#[97]⟩ : ByteArray), (⟨#[98]⟩ : ByteArray), (⟨#[99]⟩ : ByteArray)] : List ByteArray))).bind fun bt299 => ((some (([(⟨#[104, 111, 115, 116]⟩ : ByteArray), (⟨#[115, 101, 118]⟩ : ByteArray), (⟨#[122, 111, 110, 101]⟩ : ByteArray)] : List ByteArray) : List ByteArray)).bind fun y305 => (spec_l2Draw.l0 k (([(⟨(⟨#[97, 112, 112]⟩ : ByteArray), bt299.1⟩ : S99)] : List (S99))) y305 (y305.length : Int) 0 s0_0 bt299.2.1 bt299.2.2))
theorem spec_l2Draw.calls (k : Nat) (g : Nat) (j : List Int) (y : Int) (z : Int) (r1 : List (S99)) (r2 : Int) (r3 : Int) (G w : World) (hI : IsS102 G w g j y z) (hB : Below G.heap.size G w) (h : spec_l2Draw.f k j y z = some (r1, r2, r3)) :
  Calls Tryz.prog 88 #[.pointer (some ⟨g, 0, none⟩)] w fun e w' => ∃ v0_ : Value, e = .returned (v0_) ∧ Kd.R k99 99 w' w.heap.size (fun _ => True) v0_ r1 ∧ IsS102 G w' g j r2 r3 ∧ Below G.heap.size G w' ∧ KeepBut w w' g none := by
 have hu99 := Tryz.underlying99
 have d := Aside0.mk hI
 have HK := Aside0.mk (KeepBut.refl w g none)
 have HL := Aside0.mk hB.size
 clear hI
 have Ja := Aside0.mk hB.size
 have r := Aside0.mk hB
 clear hB
 have H : ((spec_l1Str.f j y z (([(⟨#[97]⟩ : ByteArray), (⟨#[98]⟩ : ByteArray), (⟨#[99]⟩ : ByteArray)] : List ByteArray))).bind fun bt299 => ((some (([(⟨#[104, 111, 115, 116]⟩ : ByteArray), (⟨#[115, 101, 118]⟩ : ByteArray), (⟨#[122, 111, 110, 101]⟩ : ByteArray)] : List ByteArray) : List ByteArray)).bind fun a => (spec_l2Draw.l0 k (([(⟨(⟨#[97, 112, 112]⟩ : ByteArray), bt299.1⟩ : S99)] : List (S99))) a (a.length : Int) 0 j bt299.2.1 bt299.2.2))) = some (r1, r2, r3) := h
 clear h
 obtain ⟨I, hy_⟩ : ∃ y_ : List ByteArray, y_ = (([(⟨#[97]⟩ : ByteArray), (⟨#[98]⟩ : ByteArray), (⟨#[99]⟩ : ByteArray)] : List ByteArray)) := ⟨_, rfl⟩
 replace H : ((spec_l1Str.f j y z I).bind fun bt299 => ((some (([(⟨#[104, 111, 115, 116]⟩ : ByteArray), (⟨#[115, 101, 118]⟩ : ByteArray), (⟨#[122, 111, 110, 101]⟩ : ByteArray)] : List ByteArray) : List ByteArray)).bind fun a => (spec_l2Draw.l0 k (([(⟨(⟨#[97, 112, 112]⟩ : ByteArray), bt299.1⟩ : S99)] : List (S99))) a (a.length : Int) 0 j bt299.2.1 bt299.2.2))) = some (r1, r2, r3) := hm_
 have J := Aside0.mk hy_; clear hy_
 replace H := bi_ H; obtain ⟨⟨s, E, F⟩, A2, H⟩ := H; (try dsimp only at H)
 obtain ⟨K, hy_⟩ : ∃ y_ : List (S99), y_ = (([(⟨(⟨#[97, 112, 112]⟩ : ByteArray), s⟩ : S99)] : List (S99))) := ⟨_, rfl⟩
 replace H : ((some (([(⟨#[104, 111, 115, 116]⟩ : ByteArray), (⟨#[115, 101, 118]⟩ : ByteArray), (⟨#[122, 111, 110, 101]⟩ : ByteArray)] : List ByteArray) : List ByteArray)).bind fun a => (spec_l2Draw.l0 k K a (a.length : Int) 0 j E F)) = some (r1, r2, r3) := hm_
 have L := Aside0.mk hy_; clear hy_
 obtain ⟨a, hy_⟩ : ∃ y_ : List ByteArray, y_ = (([(⟨#[104, 111, 115, 116]⟩ : ByteArray), (⟨#[115, 101, 118]⟩ : ByteArray), (⟨#[122, 111, 110, 101]⟩ : ByteArray)] : List ByteArray)) := ⟨_, rfl⟩
 replace H : (spec_l2Draw.l0 k K a (a.length : Int) 0 j E F) = some (r1, r2, r3) := hm_
 have O := Aside0.mk hy_; clear hy_
 have H' := Aside0.mk H
 clear H
 go_enter Tryz.func88, Tryz.ntmps88
 go_wp2_with (first | ((with_reducible refine gd_ 7 rfl ?_); refine Kd.R_lit Kd.string _ 9 ?hg (N := 7) ?hd (xs := ([(⟨#[97]⟩ : ByteArray), (⟨#[98]⟩ : ByteArray), (⟨#[99]⟩ : ByteArray)] : List ByteArray)) (inner := [.string (⟨#[97]⟩ : ByteArray), .string (⟨#[98]⟩ : ByteArray), .string (⟨#[99]⟩ : ByteArray)]) (ok := fun _ => True) (okp := fun _ => True) ?hr ?hp (fun _ hk => hk) trivial (Below.refl _ _) (Nat.le_refl _) (by simp) ?_; (case hd => rfl); (case hg => rfl); (case hr => first | (go_simp; done) | (go_simp; rfl)); (case hp => exact (Reps.one (show Kd.M Kd.string _ _ _ (⟨#[97]⟩ : ByteArray) [.string (⟨#[97]⟩ : ByteArray)] from rfl) (Reps.one (show Kd.M Kd.string _ _ _ (⟨#[98]⟩ : ByteArray) [.string (⟨#[98]⟩ : ByteArray)] from rfl) (Reps.one (show Kd.M Kd.string _ _ _ (⟨#[99]⟩ : ByteArray) [.string (⟨#[99]⟩ : ByteArray)] from rfl) (Reps.none _ _))))); intro Da w3 P hb hg_ hnew_; clear hg_ hnew_; (first | rw [← J.out] at P | (simp only [Int.reduceToNat] at P; rw [← J.out] at P)); have m := rl_ P HK; have ka := IsS102.bk_ d hb; have la := kt_ HK hb; have ma := st_ r hb; clear d HK r; have d := ka; have HK := la; have r := ma; clear ka la ma; clear hb P; obtain ⟨va, wa, xa⟩ := Kd.R_slice m.out; subst xa) | ((with_reducible refine gate_callee (f := 112) rfl ?_); refine gl_ (some 8) Tryz.func112 #[.pointer (some ⟨g, 0, none⟩), .slice va I.length wa] ?_; (with_reducible refine (spec_l1Str.calls g j y z _ _ I s E F G _ ?side1 ?side2 ?side3 ?side4 ?side5 A2.out).mono ?_); (case side1 => exact IsS102.pk_ d.out); (case side2 => exact hs_ r.out); (case side3 => exact cp_ ((Kd.R_reads' m.out).2.2)); (case side4 => exact (Kd.R_reads' m.out).2.1); (case side5 => exact far_slice (IsS102.own_ne d.out m.out (by decide))); rintro e w6 ⟨rfl, hi, hb, hk⟩; refine ⟨_, rfl, ?_⟩; replace m := IsS102.rk_ d m hk; replace HK := kh_ HK hk; replace r := Aside0.mk (hb); replace d := Aside0.mk (hi); (try clear hb); (try clear hk); (try clear hi)) | ((with_reducible refine gd_ 10 rfl ?_); refine Kd.R_lit k99 _ 99 ?hg (N := 10) ?hd (xs := ([(⟨(⟨#[97, 112, 112]⟩ : ByteArray), s⟩ : S99)] : List (S99))) (inner := [.string (⟨#[97, 112, 112]⟩ : ByteArray), .string s]) (ok := fun _ => True) (okp := fun _ => True) ?hr ?hp (fun _ hk => hk) trivial (Below.refl _ _) (Nat.le_refl _) (by simp) ?_; (case hd => rfl); (case hg => rfl); (case hr => first | (go_simp; done) | (go_simp; rfl)); (case hp => exact (Reps.c2 (show Kd.M k99 _ _ _ (⟨(⟨#[97, 112, 112]⟩ : ByteArray), s⟩ : S99) [.string (⟨#[97, 112, 112]⟩ : ByteArray), .string s] from (k99_mkM _ _ _ (⟨(⟨#[97, 112, 112]⟩ : ByteArray), s⟩ : S99) )) (Reps.none _ _))); intro Ea w7 Q hb hg_ hnew_; clear hg_ hnew_; (first | rw [← L.out] at Q | (simp only [Int.reduceToNat] at Q; rw [← L.out] at Q)); replace m := rb_ m hb; have D := rl_ Q HK; replace d := IsS102.bk_ d hb; replace HK := kt_ HK hb; replace r := st_ r hb; clear hb Q) | ((with_reducible refine gd_ 11 rfl ?_); refine Kd.R_lit Kd.string _ 9 ?hg (N := 11) ?hd (xs := ([(⟨#[104, 111, 115, 116]⟩ : ByteArray), (⟨#[115, 101, 118]⟩ : ByteArray), (⟨#[122, 111, 110, 101]⟩ : ByteArray)] : List ByteArray)) (inner := [.string (⟨#[104, 111, 115, 116]⟩ : ByteArray), .string (⟨#[115, 101, 118]⟩ : ByteArray), .string (⟨#[122, 111, 110, 101]⟩ : ByteArray)]) (ok := fun _ => True) (okp := fun _ => True) ?hr ?hp (fun _ hk => hk) trivial (Below.refl _ _) (Nat.le_refl _) (by simp) ?_; (case hd => rfl); (case hg => rfl); (case hr => first | (go_simp; done) | (go_simp; rfl)); (case hp => exact (Reps.one (show Kd.M Kd.string _ _ _ (⟨#[104, 111, 115, 116]⟩ : ByteArray) [.string (⟨#[104, 111, 115, 116]⟩ : ByteArray)] from rfl) (Reps.one (show Kd.M Kd.string _ _ _ (⟨#[115, 101, 118]⟩ : ByteArray) [.string (⟨#[115, 101, 118]⟩ : ByteArray)] from rfl) (Reps.one (show Kd.M Kd.string _ _ _ (⟨#[122, 111, 110, 101]⟩ : ByteArray) [.string (⟨#[122, 111, 110, 101]⟩ : ByteArray)] from rfl) (Reps.none _ _))))); intro Fa w9 v hb hg_ hnew_; clear hg_ hnew_; (first | rw [← O.out] at v | (simp only [Int.reduceToNat] at v; rw [← O.out] at v)); replace D := rb_ D hb; have S := Aside0.mk (Kd.R_lower (Kd.R_new' v (Kd.R_lt (rp_ m.out))) (ks_ HK)); replace m := Aside0.mk (Kd.R_elder' (rp_ m.out) (Kd.R_base v) hb); replace d := IsS102.bk_ d hb; replace HK := kt_ HK hb; replace r := st_ r hb; clear hb v; obtain ⟨na, oa, pa⟩ := Kd.R_slice S.out; subst pa))
 go_loopg [3, 13] k (fun kq v3 ya w' => ∃ (q : List (S99)) (c : Int) (n : Int) (o : Int), ya = .int .i64 c ∧ Aside0 (spec_l2Draw.l0 kq q a (a.length : Int) c j n o = some (r1, r2, r3)) ∧ Aside0 (kq ≤ k) ∧ Aside0 (Kd.R k99 99 w' w.heap.size (fun _ => True) v3 q) ∧ Aside0 (Kd.R Kd.string 9 w' w.heap.size (fun _ => True) (.slice na a.length oa) a) ∧ Aside0 (IsS102 G w' g j n o) ∧ Aside0 (KeepBut w w' g none) ∧ Aside0 (Below G.heap.size G w'))
 case atStart => exact ⟨(K), (0), (E), (F), rs_, H', ⟨Nat.le_refl _⟩, ⟨rp_ D.out⟩, ⟨Kd.R_mono (rp_ S.out) (fun _ hk => trivial)⟩, ⟨IsS102.pk_ d.out⟩, ⟨ku_ HK.out⟩, ⟨hs_ r.out⟩⟩
 case round =>
  clear H'
  obtain ⟨q, c, n, o, rfl, HA, da, l, i, d, HK, r⟩ := hrel
  cases gk with
  | zero => exact absurd HA.out (by simp [spec_l2Draw.l0])
  | succ k1 =>
   have H := HA.out
   clear HA
   simp only [spec_l2Draw.l0] at H
   replace H := ie_ H; rcases H with ⟨T, H⟩ | ⟨T, H⟩
   ·
    have fa := decide_eq_true T
    clear T
    replace H := id_ H; obtain ⟨Aa, H⟩ := H
    replace H := id_ H; obtain ⟨Ba, H⟩ := H
    replace H := bi_ H; obtain ⟨⟨Ga, A, B⟩, qa, H⟩ := H; (try dsimp only at H)
    replace H := ib_ H; rcases H with ⟨rfl, H⟩ | ⟨rfl, H⟩
    ·
     obtain ⟨U, hy_⟩ : ∃ y_ : List ByteArray, y_ = (([(⟨#[49]⟩ : ByteArray), (⟨#[50]⟩ : ByteArray)] : List ByteArray)) := ⟨_, rfl⟩
     replace H : ((spec_l1Str.f j A B U).bind fun bt315 => (if q.length < 4398046511104 then (spec_l2Draw.l0 k1 (q ++ [(⟨rdOf ByteArray.empty a c, bt315.1⟩ : S99)]) a (a.length : Int) (wrap64 (c + 1)) j bt315.2.1 bt315.2.2) else (none))) = some (r1, r2, r3) := hm_
     have V := Aside0.mk hy_; clear hy_
     replace H := bi_ H; obtain ⟨⟨C, W, X⟩, Ca, H⟩ := H; (try dsimp only at H)
     replace H := im_ H; obtain ⟨ga, H⟩ := H
     obtain ⟨ea, hy_⟩ : ∃ y_ : List (S99), y_ = (q ++ [(⟨rdOf ByteArray.empty a c, C⟩ : S99)]) := ⟨_, rfl⟩
     replace H : (spec_l2Draw.l0 k1 ea a (a.length : Int) (wrap64 (c + 1)) j W X) = some (r1, r2, r3) := hm_
     have ha := Aside0.mk hy_; clear hy_
     have H' := Aside0.mk H
     clear H
     obtain ⟨t, u⟩ : 0 ≤ (c : Int) ∧ c < (a.length : Int) := pq_
     obtain ⟨ia, Y, Z⟩ := Kd.at_string (Kd.R_reads' i.out).2.2 c t u
     cases Y
     replace t := eq_true t; replace u := eq_true u
     go_wp2_with (first | ((with_reducible refine gate_callee (f := 70) rfl ?_); refine gl_ (some 18) Tryz.func70 #[.pointer (some ⟨g, 0, none⟩), .int .i64 4] ?_; (with_reducible refine (spec_l1Once.calls g j n o 4 true A B G _ ?side1 ?side2 qa.out).mono ?_); (case side1 => exact IsS102.pk_ d.out); (case side2 => exact hs_ r.out); rintro e Ma ⟨rfl, hi, hb, hk⟩; refine ⟨_, rfl, ?_⟩; replace l := IsS102.rk_ d l hk; replace i := IsS102.rk_ d i hk; replace HK := kh_ HK hk; replace r := Aside0.mk (hb); replace d := Aside0.mk (hi); (try clear hb); (try clear hk); (try clear hi)) | ((with_reducible refine gd_ 22 rfl ?_); refine Kd.R_lit Kd.string _ 9 ?hg (N := 22) ?hd (xs := ([(⟨#[49]⟩ : ByteArray), (⟨#[50]⟩ : ByteArray)] : List ByteArray)) (inner := [.string (⟨#[49]⟩ : ByteArray), .string (⟨#[50]⟩ : ByteArray)]) (ok := fun _ => True) (okp := fun _ => True) ?hr ?hp (fun _ hk => hk) trivial (Below.refl _ _) (Nat.le_refl _) (by simp) ?_; (case hd => rfl); (case hg => rfl); (case hr => first | (go_simp; done) | (go_simp; rfl)); (case hp => exact (Reps.one (show Kd.M Kd.string _ _ _ (⟨#[49]⟩ : ByteArray) [.string (⟨#[49]⟩ : ByteArray)] from rfl) (Reps.one (show Kd.M Kd.string _ _ _ (⟨#[50]⟩ : ByteArray) [.string (⟨#[50]⟩ : ByteArray)] from rfl) (Reps.none _ _)))); intro Ha Na x hb hg_ hnew_; clear hg_ hnew_; (first | rw [← V.out] at x | (simp only [Int.reduceToNat] at x; rw [← V.out] at x)); replace l := rb_ l hb; have p := Aside0.mk (Kd.R_lower (Kd.R_new' x (Kd.R_lt (rp_ i.out))) (ks_ HK)); replace i := Aside0.mk (Kd.R_elder' (rp_ i.out) (Kd.R_base x) hb); replace d := IsS102.bk_ d hb; replace HK := kt_ HK hb; replace r := st_ r hb; clear hb x; obtain ⟨ra, sa, ta⟩ := Kd.R_slice p.out; subst ta) | ((with_reducible refine gate_callee (f := 112) rfl ?_); refine gl_ (some 23) Tryz.func112 #[.pointer (some ⟨g, 0, none⟩), .slice ra U.length sa] ?_; (with_reducible refine (spec_l1Str.calls g j A B _ _ U C W X G _ ?side1 ?side2 ?side3 ?side4 ?side5 Ca.out).mono ?_); (case side1 => exact IsS102.pk_ d.out); (case side2 => exact hs_ r.out); (case side3 => exact cp_ ((Kd.R_reads' p.out).2.2)); (case side4 => exact (Kd.R_reads' p.out).2.1); (case side5 => exact far_slice (IsS102.own_ne d.out p.out (by decide))); rintro e Oa ⟨rfl, hi, hb, hk⟩; refine ⟨_, rfl, ?_⟩; replace l := IsS102.rk_ d l hk; replace i := IsS102.rk_ d i hk; replace p := IsS102.rk_ d p hk; replace HK := kh_ HK hk; replace r := Aside0.mk (hb); replace d := Aside0.mk (hi); (try clear hb); (try clear hk); (try clear hi)) | ((with_reducible refine gate_builtin (b := .append) (xs := #[.tmp 19, .tmp 25]) rfl ?_); at_builtin; refine Kd.R_append k99 w.heap.size rfl (.tmp 19) (.tmp 25) 27 99 (.agg #[(.string ⟨#[]⟩), (.string ⟨#[]⟩)]) 32 rfl Tryz.underlying27 info99 rfl (by decide) (by omega) u3 q (⟨rdOf ByteArray.empty a c, C⟩ : S99) [.string (rdOf ByteArray.empty a c), .string C] (fun _ => True) (fun _ => False) rfl rfl ?aP (fun _ hk => hk.elim) ?aF ?aO (Below.refl _ _) ?aS ?aL ?_; (case aP => exact k99_mkM _ _ _ (⟨rdOf ByteArray.empty a c, C⟩ : S99)); (case aF => exact (fun _ _ => trivial)); (case aO => exact (rp_ l.out)); (case aS => exact (ks_ HK)); (case aL => have := ga.out; omega); intro Ia Pa ho hb hg hat; rw [← ha.out] at ho; replace i := Aside0.mk (Kd.R_over' (rp_ i.out) (Kd.R_typed (rp_ l.out)) (by decide) hg); replace d := Aside0.mk (IsS102.grown (IsS102.pk_ d.out) hg (IsS102.own_ne d.out l.out (by decide))); replace p := Aside0.mk (Kd.R_over' (rp_ p.out) (Kd.R_typed (rp_ l.out)) (by decide) hg); replace r := Aside0.mk (below_weaken (hs_ r.out) HL.out hb); replace HK := Aside0.mk (KeepBut.trans (ku_ HK.out) (KeepBut.of_grown hg g) (Kd.R_base2 l.out)); have ja := Aside0.mk (ho); clear l; clear ho hb hg hat))
     go_roundg k1
     case measure => have := da.out; omega
     case rel => exact ⟨(ea), (wrap64 (c + 1)), (W), (X), rs_, H', ⟨by have := da.out; omega⟩, ⟨rp_ ja.out⟩, ⟨Kd.R_mono (rp_ i.out) (fun _ hk => trivial)⟩, ⟨IsS102.pk_ d.out⟩, ⟨ku_ HK.out⟩, ⟨hs_ r.out⟩⟩
    have H' := Aside0.mk H
    clear H
    obtain ⟨t, u⟩ : 0 ≤ (c : Int) ∧ c < (a.length : Int) := pq_
    obtain ⟨ia, Y, Z⟩ := Kd.at_string (Kd.R_reads' i.out).2.2 c t u
    cases Y
    replace t := eq_true t; replace u := eq_true u
    go_wp2_with (first | ((with_reducible refine gate_callee (f := 70) rfl ?_); refine gl_ (some 18) Tryz.func70 #[.pointer (some ⟨g, 0, none⟩), .int .i64 4] ?_; (with_reducible refine (spec_l1Once.calls g j n o 4 false A B G _ ?side1 ?side2 qa.out).mono ?_); (case side1 => exact IsS102.pk_ d.out); (case side2 => exact hs_ r.out); rintro e Qa ⟨rfl, hi, hb, hk⟩; refine ⟨_, rfl, ?_⟩; replace l := IsS102.rk_ d l hk; replace i := IsS102.rk_ d i hk; replace HK := kh_ HK hk; replace r := Aside0.mk (hb); replace d := Aside0.mk (hi); (try clear hb); (try clear hk); (try clear hi)))
    go_roundg k1
    case measure => have := da.out; omega
    case rel => exact ⟨(q), (wrap64 (c + 1)), (A), (B), rs_, H', ⟨by have := da.out; omega⟩, ⟨rp_ l.out⟩, ⟨rp_ i.out⟩, ⟨IsS102.pk_ d.out⟩, ⟨ku_ HK.out⟩, ⟨hs_ r.out⟩⟩
   have fa : decide (c < (a.length : Int)) = false := decide_eq_false T
   clear T
   simp only [Option.some.injEq, Prod.mk.injEq] at H
   obtain ⟨rfl, rfl, rfl⟩ := H
   go_wp2
   go_ret
   exact ⟨_, rr_, rp_ l.out, IsS102.pk_ d.out, hs_ r.out, ku_ HK.out⟩
def spec_l1Plain.f (s0_0 : List Int) (s0_1 : Int) (s0_2 : Int) : Option (ByteArray × Int × Int) := (spec_l1Str.f s0_0 s0_1 s0_2 (([(⟨#[97]⟩ : ByteArray), (⟨#[98]⟩ : ByteArray), (⟨#[120, 32, 121]⟩ : ByteArray), (⟨#[]⟩ : ByteArray), (⟨#[99, 114, 105, 116]⟩ : ByteArray), (⟨#[125, 45]⟩ : ByteArray)] : List ByteArray))).bind fun bt324 => (some (bt324.1, bt324.2.1, bt324.2.2))
theorem spec_l1Plain.calls (g : Nat) (b : List Int) (c : Int) (d : Int) (u : ByteArray) (v : Int) (x : Int) (m w : World) (hI : IsS102 m w g b c d) (hB : Below m.heap.size m w) (h : spec_l1Plain.f b c d = some (u, v, x)) :
  Calls Tryz.prog 93 #[.pointer (some ⟨g, 0, none⟩)] w fun e w' => e = .returned (.string u) ∧ IsS102 m w' g b v x ∧ Below m.heap.size m w' ∧ KeepBut w w' g none := by
 have i := Aside0.mk hI
 have HK := Aside0.mk (KeepBut.refl w g none)
 have HL := Aside0.mk hB.size
 clear hI
 have C := Aside0.mk hB.size
 have n := Aside0.mk hB
 clear hB
 have H : ((spec_l1Str.f b c d (([(⟨#[97]⟩ : ByteArray), (⟨#[98]⟩ : ByteArray), (⟨#[120, 32, 121]⟩ : ByteArray), (⟨#[]⟩ : ByteArray), (⟨#[99, 114, 105, 116]⟩ : ByteArray), (⟨#[125, 45]⟩ : ByteArray)] : List ByteArray))).bind fun bt324 => (some (bt324.1, bt324.2.1, bt324.2.2))) = some (u, v, x) := h
 clear h
 obtain ⟨j, hy_⟩ : ∃ y_ : List ByteArray, y_ = (([(⟨#[97]⟩ : ByteArray), (⟨#[98]⟩ : ByteArray), (⟨#[120, 32, 121]⟩ : ByteArray), (⟨#[]⟩ : ByteArray), (⟨#[99, 114, 105, 116]⟩ : ByteArray), (⟨#[125, 45]⟩ : ByteArray)] : List ByteArray)) := ⟨_, rfl⟩
 replace H : ((spec_l1Str.f b c d j).bind fun bt324 => (some (bt324.1, bt324.2.1, bt324.2.2))) = some (u, v, x) := hm_
 have k := Aside0.mk hy_; clear hy_
 replace H := bi_ H; obtain ⟨⟨o, p, q⟩, D, H⟩ := H; (try dsimp only at H)
 simp only [Option.some.injEq, Prod.mk.injEq] at H
 obtain ⟨rfl, rfl, rfl⟩ := H
 go_enter Tryz.func93, Tryz.ntmps93
 go_wp2_with (first | ((with_reducible refine gd_ 4 rfl ?_); refine Kd.R_lit Kd.string _ 9 ?hg (N := 4) ?hd (xs := ([(⟨#[97]⟩ : ByteArray), (⟨#[98]⟩ : ByteArray), (⟨#[120, 32, 121]⟩ : ByteArray), (⟨#[]⟩ : ByteArray), (⟨#[99, 114, 105, 116]⟩ : ByteArray), (⟨#[125, 45]⟩ : ByteArray)] : List ByteArray)) (inner := [.string (⟨#[97]⟩ : ByteArray), .string (⟨#[98]⟩ : ByteArray), .string (⟨#[120, 32, 121]⟩ : ByteArray), .string (⟨#[]⟩ : ByteArray), .string (⟨#[99, 114, 105, 116]⟩ : ByteArray), .string (⟨#[125, 45]⟩ : ByteArray)]) (ok := fun _ => True) (okp := fun _ => True) ?hr ?hp (fun _ hk => hk) trivial (Below.refl _ _) (Nat.le_refl _) (by simp) ?_; (case hd => rfl); (case hg => rfl); (case hr => first | (go_simp; done) | (go_simp; rfl)); (case hp => exact (Reps.one (show Kd.M Kd.string _ _ _ (⟨#[97]⟩ : ByteArray) [.string (⟨#[97]⟩ : ByteArray)] from rfl) (Reps.one (show Kd.M Kd.string _ _ _ (⟨#[98]⟩ : ByteArray) [.string (⟨#[98]⟩ : ByteArray)] from rfl) (Reps.one (show Kd.M Kd.string _ _ _ (⟨#[120, 32, 121]⟩ : ByteArray) [.string (⟨#[120, 32, 121]⟩ : ByteArray)] from rfl) (Reps.one (show Kd.M Kd.string _ _ _ (⟨#[]⟩ : ByteArray) [.string (⟨#[]⟩ : ByteArray)] from rfl) (Reps.one (show Kd.M Kd.string _ _ _ (⟨#[99, 114, 105, 116]⟩ : ByteArray) [.string (⟨#[99, 114, 105, 116]⟩ : ByteArray)] from rfl) (Reps.one (show Kd.M Kd.string _ _ _ (⟨#[125, 45]⟩ : ByteArray) [.string (⟨#[125, 45]⟩ : ByteArray)] from rfl) (Reps.none _ _)))))))); intro B E l hb hg_ hnew_; clear hg_ hnew_; (first | rw [← k.out] at l | (simp only [Int.reduceToNat] at l; rw [← k.out] at l)); have a := rl_ l HK; have r := IsS102.bk_ i hb; have s := kt_ HK hb; have t := st_ n hb; clear i HK n; have i := r; have HK := s; have n := t; clear r s t; clear hb l; obtain ⟨y, z, A⟩ := Kd.R_slice a.out; subst A) | ((with_reducible refine gate_callee (f := 112) rfl ?_); refine gl_ (some 5) Tryz.func112 #[.pointer (some ⟨g, 0, none⟩), .slice y j.length z] ?_; (with_reducible refine (spec_l1Str.calls g b c d _ _ j o p q m _ ?side1 ?side2 ?side3 ?side4 ?side5 D.out).mono ?_); (case side1 => exact IsS102.pk_ i.out); (case side2 => exact hs_ n.out); (case side3 => exact cp_ ((Kd.R_reads' a.out).2.2)); (case side4 => exact (Kd.R_reads' a.out).2.1); (case side5 => exact far_slice (IsS102.own_ne i.out a.out (by decide))); rintro e F ⟨rfl, hi, hb, hk⟩; refine ⟨_, rfl, ?_⟩; replace a := IsS102.rk_ i a hk; replace HK := kh_ HK hk; replace n := Aside0.mk (hb); replace i := Aside0.mk (hi); (try clear hb); (try clear hk); (try clear hi)))
 go_ret
 exact an_ ⟨IsS102.pk_ i.out, hs_ n.out, ku_ HK.out⟩
def spec_l4Draw.f (k : Nat) (s0_0 : List Int) (s0_1 : Int) (s0_2 : Int) : Option ((List (S99)) × Int × Int × ByteArray × Int × Int) := (spec_l2Draw.f k s0_0 s0_1 s0_2).bind fun bt328 => ((spec_l1Below.f s0_0 bt328.2.1 bt328.2.2 8).bind fun bt333 => ((spec_l1Plain.f s0_0 bt333.2.1 bt333.2.2).bind fun bt336 => ((spec_l1Int.f s0_0 bt336.2.1 bt336.2.2 (([0, 2, 5, 20, 60] : List Int))).bind fun bt343 => (some (bt328.1, bt333.1, wrap64 (bt333.1 + bt343.1), bt336.1, bt343.2.1, bt343.2.2)))))
def spec_l4Draw.T2 : Bool × List (List Nat × List Nat) := (true, [([], []), ([0], [0]), ([], []), ([], []), ([2, 3], [2, 3]), ([1, 4], [1, 4]), ([0, 1, 2, 3, 4, 5], []), ([6, 5, 4, 0, 1, 2, 3, 4, 5], [5, 6])])
def spec_l4Draw.B2 : List Nat := [0, 1, 0, 0, 12, 31, 63, 127]
theorem spec_l4Draw.tab2 : rtab .any (opsOf Tryz.f52 2) = spec_l4Draw.T2 := by kernel_rfl
theorem spec_l4Draw.bits2 : waitsOk spec_l4Draw.T2.2 spec_l4Draw.B2 = true := by kernel_rfl
theorem spec_l4Draw.calls (k : Nat) (g : Nat) (j : List Int) (F : Int) (G : Int) (r1 : List (S99)) (r2 : Int) (r3 : Int) (r4 : ByteArray) (r5 : Int) (r6 : Int) (L w : World) (hI : IsS102 L w g j F G) (hB : Below L.heap.size L w) (h : spec_l4Draw.f k j F G = some (r1, r2, r3, r4, r5, r6)) :
  Calls Tryz.prog 52 #[.pointer (some ⟨g, 0, none⟩)] w fun e w' => ∃ v0_ : Value, e = .returned (.agg #[v0_, .int .i64 r2, .int .i64 r3, .string r4]) ∧ Kd.R k99 99 w' w.heap.size (fun _ => True) v0_ r1 ∧ IsS102 L w' g j r5 r6 ∧ Below L.heap.size L w' ∧ KeepBut w w' g none := by
 have hu29 := Tryz.underlying29
 have d := Aside0.mk hI
 have HK := Aside0.mk (KeepBut.refl w g none)
 have HL := Aside0.mk hB.size
 clear hI
 have da := Aside0.mk hB.size
 have s := Aside0.mk hB
 clear hB
 have H : ((spec_l2Draw.f k j F G).bind fun bt328 => ((spec_l1Below.f j bt328.2.1 bt328.2.2 8).bind fun bt333 => ((spec_l1Plain.f j bt333.2.1 bt333.2.2).bind fun bt336 => ((spec_l1Int.f j bt336.2.1 bt336.2.2 (([0, 2, 5, 20, 60] : List Int))).bind fun bt343 => (some (bt328.1, bt333.1, wrap64 (bt333.1 + bt343.1), bt336.1, bt343.2.1, bt343.2.2)))))) = some (r1, r2, r3, r4, r5, r6) := h
 clear h
 replace H := bi_ H; obtain ⟨⟨o, V, W⟩, A2, H⟩ := H; (try dsimp only at H)
 replace H := bi_ H; obtain ⟨⟨l, X, Y⟩, A3, H⟩ := H; (try dsimp only at H)
 replace H := bi_ H; obtain ⟨⟨t, I, J⟩, A4, H⟩ := H; (try dsimp only at H)
 obtain ⟨O, hy_⟩ : ∃ y_ : List Int, y_ = (([0, 2, 5, 20, 60] : List Int)) := ⟨_, rfl⟩
 replace H : ((spec_l1Int.f j I J O).bind fun bt343 => (some (o, l, wrap64 (l + bt343.1), t, bt343.2.1, bt343.2.2))) = some (r1, r2, r3, r4, r5, r6) := hm_
 have P := Aside0.mk hy_; clear hy_
 replace H := bi_ H; obtain ⟨⟨Q, ea, fa⟩, A5, H⟩ := H; (try dsimp only at H)
 simp only [Option.some.injEq, Prod.mk.injEq] at H
 obtain ⟨rfl, rfl, rfl, rfl, rfl, rfl⟩ := H
 go_enter Tryz.func52, Tryz.ntmps52
 try go_wp2_with (first | ((with_reducible refine gd_ 2 rfl ?_); refine bv_ 2 #[.slice none 0 0, .int .i64 0, .int .i64 0, .string (⟨#[]⟩ : ByteArray)] 29 ?_; intro u hg w6 x hb; replace s := st_ s hb; have b := Aside0.mk (x); have aa := Ge_.mk ((by rw [hg]; exact (ks_ HK) : w.heap.size ≤ u)); replace HK := kt_ HK hb; have ya := gt_ da aa; have y := IsS102.nl_ d hg; replace d := IsS102.bk_ d hb; have T := ns_ y; clear hb x hg) | ((with_reducible refine gate_callee (f := 88) rfl ?_); refine gl_ (some 5) Tryz.func88 #[.pointer (some ⟨g, 0, none⟩)] ?_; (with_reducible refine (spec_l2Draw.calls k g j F G o V W L _ ?side1 ?side2 A2.out).mono ?_); (case side1 => exact IsS102.pk_ d.out); (case side2 => exact hs_ s.out); rintro e w7 ⟨jb, rfl, ga, hi, hb, hk⟩; refine ⟨_, rfl, ?_⟩; replace b := kb_ hk b; have c := rl_ ga HK; replace HK := kh_ HK hk; replace s := Aside0.mk (hb); replace d := Aside0.mk (hi); (try clear hb); (try clear hk); (try clear hi); (try clear ga)) | ((with_reducible refine gate_callee (f := 69) rfl ?_); refine gl_ (some 7) Tryz.func69 #[.pointer (some ⟨g, 0, none⟩), .int .i64 8] ?_; (with_reducible refine (spec_l1Below.calls g j V W 8 l X Y L _ ?side1 ?side2 A3.out).mono ?_); (case side1 => exact IsS102.pk_ d.out); (case side2 => exact hs_ s.out); rintro e w8 ⟨rfl, hi, hb, hk⟩; refine ⟨_, rfl, ?_⟩; replace b := kb_ hk b; replace c := IsS102.rk_ d c hk; replace HK := kh_ HK hk; replace s := Aside0.mk (hb); replace d := Aside0.mk (hi); (try clear hb); (try clear hk); (try clear hi)) | ((with_reducible refine gate_callee (f := 93) rfl ?_); refine gl_ (some 9) Tryz.func93 #[.pointer (some ⟨g, 0, none⟩)] ?_; (with_reducible refine (spec_l1Plain.calls g j X Y t I J L _ ?side1 ?side2 A4.out).mono ?_); (case side1 => exact IsS102.pk_ d.out); (case side2 => exact hs_ s.out); rintro e w9 ⟨rfl, hi, hb, hk⟩; refine ⟨_, rfl, ?_⟩; replace b := kb_ hk b; replace c := IsS102.rk_ d c hk; replace HK := kh_ HK hk; replace s := Aside0.mk (hb); replace d := Aside0.mk (hi); (try clear hb); (try clear hk); (try clear hi); obtain ⟨z, A, ha⟩ := Kd.R_slice c.out; subst ha) | ((with_reducible refine gd_ 3 rfl ?_); refine bv_ 3 #[.slice none 0 0, .int .i64 0, .int .i64 0, .string (⟨#[]⟩ : ByteArray)] 29 ?_; intro i hg za x hb; replace c := rb_ c hb; replace s := st_ s hb; have a := Aside0.mk (x); have ba := Ge_.mk ((by rw [hg]; exact (ks_ HK) : w.heap.size ≤ i)); replace HK := kt_ HK hb; have Aa := gt_ da ba; obtain ⟨q, r, b⟩ := nb_ b hg hb; have B := IsS102.nl_ d hg; replace d := IsS102.bk_ d hb; have U := ns_ B; clear hb x hg; have Ba := r.out; have Ca := q.out; have Da := U.out; have Ea := B.out; obtain ⟨Fa, Ga, Ha, Ia, Ja, Ka, La, Ma⟩ := bc4_ a.out))
 generalize hw_ : ((((za.setCell ⟨i, 0, none⟩ (.slice z o.length A)).setCell ⟨i, 1, none⟩ (.int .i64 l)).setCell ⟨i, 2, none⟩ (.int .i64 0)).setCell ⟨i, 3, none⟩ (.string t)) = E
 have ia : Aside0 (Kd.R k99 99 E w.heap.size (fun _ => True) (.slice z o.length A) o) := ⟨by rw [← hw_]; exact (Kd.R_mono (ry_ c.out a.out) (fun _ hk => trivial))⟩
 have ja : Aside0 (E.heap[u]? = some (.cells #[.slice none 0 0, .int .i64 0, .int .i64 0, .string (⟨#[]⟩ : ByteArray)] 29 (0, 0))) := ⟨by rw [← hw_]; exact (bq_ b.out)⟩
 have ka : Aside0 (E.heap[i]? = some (.cells #[.slice z o.length A, .int .i64 l, .int .i64 0, .string t] 29 (0, 0))) := ⟨by rw [← hw_]; exact (bp_ a.out)⟩
 have la : Aside0 (IsS102 L E g j I J) := ⟨by rw [← hw_]; exact (IsS102.pk_ d.out)⟩
 have ma : Aside0 (KeepBut w E g none) := ⟨by rw [← hw_]; exact (ku_ HK.out)⟩
 have na : Aside0 (Below L.heap.size L E) := ⟨by rw [← hw_]; exact (hs_ s.out)⟩
 clear hw_
 (try clear c)
 (try clear b)
 (try clear a)
 (try clear d)
 (try clear HK)
 (try clear s)
 have c := ia
 have b := ja
 have a := ka
 have d := la
 have HK := ma
 have s := na
 clear ia ja ka la ma na
 replace c := Aside0.mk (Kd.R_drew c.out)
 replace b := Aside0.mk (blk_drew b.out)
 replace a := Aside0.mk (blk_drew a.out)
 replace d := Aside0.mk (IsS102.drew d.out)
 replace HK := Aside0.mk (keep_drew HK.out)
 replace s := Aside0.mk (bd_ s.out)
 refine start_ (n := 8) (S := fun w' => w'.cell? ⟨i, 0, none⟩ = some (.slice z o.length A) ∧ w'.cell? ⟨i, 1, none⟩ = some (.int .i64 l) ∧ w'.cell? ⟨i, 2, none⟩ = some (.int .i64 0) ∧ w'.cell? ⟨i, 3, none⟩ = some (.string t)) (ds := [7]) (b_ 0 8) (by kernel_rfl) rfl rfl ⟨bx_ a.out 0, bx_ a.out 1, bx_ a.out 2, bx_ a.out 3⟩ (fun v => ?_); refine with_tabW spec_l4Draw.tab2 spec_l4Draw.bits2 (fun C Na => ?_)
 generalize E.drew = qb at c b a d HK s v ⊢
 refine p_ C ?_
 refine qw_ 2 (m_ 8 5) C ?_
 refine qt_ 1 (b_ 3 5) C Na v ?_
 refine o1_ 3 (b_ 4 4) C (fun K hK => ?_)
 refine Kd.R_lit_step (Kd.int .i64) _ 3 ?hg (N := 14) ?hd (xs := ([0, 2, 5, 20, 60] : List Int)) (inner := [.int .i64 0, .int .i64 2, .int .i64 5, .int .i64 20, .int .i64 60]) (ok := fun _ => True) (okp := fun _ => True) ?hr ?hp (fun _ hk => hk) trivial (Below.refl _ _) (Nat.le_refl _) (by simp) ?_; (case hd => rfl); (case hg => rfl); (case hr => first | (go_simp; done) | (go_simp; rfl)); (case hp => exact (Reps.one (show Kd.M (Kd.int .i64) _ _ _ 0 [.int .i64 0] from rfl) (Reps.one (show Kd.M (Kd.int .i64) _ _ _ 2 [.int .i64 2] from rfl) (Reps.one (show Kd.M (Kd.int .i64) _ _ _ 5 [.int .i64 5] from rfl) (Reps.one (show Kd.M (Kd.int .i64) _ _ _ 20 [.int .i64 20] from rfl) (Reps.one (show Kd.M (Kd.int .i64) _ _ _ 60 [.int .i64 60] from rfl) (Reps.none _ _)))))))
 intro kb rb D hb hg_ hnew_
 clear hg_ hnew_
 (first | rw [← P.out] at D | (simp only [Int.reduceToNat] at D; rw [← P.out] at D))
 replace c := rb_ c hb
 have m := rl_ D HK
 replace d := IsS102.bk_ d hb
 replace b := bk2_ b hb
 replace a := bk2_ a hb
 replace HK := kt_ HK hb
 replace s := st_ s hb
 clear hb D
 obtain ⟨oa, pa, Z⟩ := Kd.R_slice m.out
 (first | subst Z | (obtain ⟨rfl, rfl⟩ := si_ Z))
 refine ho_ hK (e4_ a.out) (fun v => ?_)
 refine o1_ 4 (b_ 5 3) C (fun K hK => ?_)
 refine gs_ Tryz.func66 #[.pointer (some ⟨g, 0, none⟩), .slice oa O.length pa] ?_
 with_reducible refine (spec_l1Int.calls g j I J _ _ O Q ea fa L _ ?side1 ?side2 ?side3 ?side4 ?side5 A5.out).mono ?_
 (case side1 => exact IsS102.pk_ d.out)
 (case side2 => exact hs_ s.out)
 (case side3 => exact cp_ ((Kd.R_reads' m.out).2.2))
 (case side4 => exact (Kd.R_reads' m.out).2.1)
 (case side5 => exact far_slice (IsS102.own_ne d.out m.out (by decide)))
 rintro e Oa ⟨rfl, hi, hb, hk⟩
 refine ⟨_, rfl, ?_⟩
 replace b := kb_ hk b
 replace c := IsS102.rk_ d c hk
 replace a := kb_ hk a
 replace m := IsS102.rk_ d m hk
 replace HK := kh_ HK hk
 replace s := Aside0.mk (hb)
 replace d := Aside0.mk (hi)
 (try clear hb)
 (try clear hk)
 (try clear hi)
 refine ho_ hK (e4_ a.out) (fun v => ?_)
 iterate 2 refine p_ C ?_
 refine l1_ 7 (b_ 8 0) C (fun K hK => ?_)
 have lb : Oa.cell? ⟨i, 2, none⟩ = some (.int .i64 0) := bx_ a.out 2
 have Pa := blk_frozen a.out 2
 have qa := q.out
 have ra := r.out
 refine skip_ (w1 := ?_) (by rfl) rfl ?_ ?_
 rotate_left
 ·
  go_simp
  rfl
 refine hK.out _ _ ?_
 clear hK K
 refine done_ (done_of C.out (by kernel_rfl)) ?_
 obtain ⟨Qa, Ra, Sa, Ta, Ua, Va, Wa, Xa⟩ := bc4_ a.out
 have Ya := T.out
 have Za := y.out
 obtain ⟨ab, bb, cb, db, eb, fb, gb, ib⟩ := bc4_ b.out
 try go_wp2
 refine bodyPost_ret (results_cell_row rfl _ _ u 29 #[.slice z o.length A, .int .i64 l, .int .i64 (wrap64 (l + Q)), .string t] (0, 0) _ rfl (bp_ b.out) Tryz.underlying29 rfl (by kernel_rfl)) rfl ?_
 exact ⟨_, rr_, Kd.R_mono (rf_ u (Kd.R_far (p := ⟨i, 2, none⟩) (Kd.R_types (Kd.R_types c.out a.out (by decide)) b.out (by decide)) (fun _ hk => hk.1.2) (.int .i64 (wrap64 (l + Q)))) (fun _ hk => hk.2)) (fun _ hk => trivial), IsS102.pk_ d.out, hs_ s.out, ku_ HK.out⟩
def spec_l7Labels.j0 : Nat → List (S29) → Bool → List Int → Int → Int → Option ((List (S99)) × Int × Int)
 | 0, _, _, _, _, _ => none
 | k + 1, x1, x12, x1000, x1001, x1002 => if x12 = true then ((some (([] : List (S99)) : List (S99))).bind fun y599 => ((spec_l1Below.f x1000 x1001 x1002 (x1.length : Int)).bind fun bt602 => (if 0 ≤ bt602.1 then (if bt602.1 < (x1.length : Int) then (if y599.length + ((rd_T29 x1 bt602.1).f0).length < 4398046511104 then (some ((y599 ++ ((rd_T29 x1 bt602.1).f0)), bt602.2.1, bt602.2.2)) else (none)) else (none)) else (none)))) else ((spec_l2Draw.f k x1000 x1001 x1002).bind fun bt609 => (some (bt609.1, bt609.2.1, bt609.2.2)))
def spec_l7Labels.f (k : Nat) (s0_0 : List Int) (s0_1 : Int) (s0_2 : Int) (l1 : List (S29)) : Option ((List (S99)) × Int × Int) := if (l1.length : Int) > 0 then ((spec_l1Once.f s0_0 s0_1 s0_2 3).bind fun bt596 => (spec_l7Labels.j0 k l1 (!bt596.1) s0_0 bt596.2.1 bt596.2.2)) else (spec_l7Labels.j0 k l1 false s0_0 s0_1 s0_2)
theorem spec_l7Labels.calls (k : Nat) (g : Nat) (i : List Int) (m : Int) (n : Int) (A1 : Option Addr) (c1 : Nat) (l : List (S29)) (T : List (S99)) (U : Int) (V : Int) (y w : World) (hI : IsS102 y w g i m n) (hB : Below y.heap.size y w) (W : ∀ W_, KeepBut w W_ g none → Kd.C k29 W_ A1 l.length l) (X : l.length ≤ c1) (h : spec_l7Labels.f k i m n l = some (T, U, V)) :
  Calls Tryz.prog 53 #[.pointer (some ⟨g, 0, none⟩), .slice A1 l.length c1] w fun e w' => ∃ v0_ : Value, e = .returned (v0_) ∧ Kd.R k99 99 w' w.heap.size (fun _ => True) v0_ T ∧ IsS102 y w' g i U V ∧ Below y.heap.size y w' ∧ KeepBut w w' g none := by
 have oa := Aside0.mk W
 have Aa := Aside0.mk X
 clear W X
 have d := Aside0.mk hI
 have HK := Aside0.mk (KeepBut.refl w g none)
 have HL := Aside0.mk hB.size
 clear hI
 have Ba := Aside0.mk hB.size
 have p := Aside0.mk hB
 clear hB
 have H : (if (l.length : Int) > 0 then ((spec_l1Once.f i m n 3).bind fun bt596 => (spec_l7Labels.j0 k l (!bt596.1) i bt596.2.1 bt596.2.2)) else (spec_l7Labels.j0 k l false i m n)) = some (T, U, V) := h
 clear h
 have M := Aside0.mk H
 clear H
 go_enter Tryz.func53, Tryz.ntmps53
 go_upto_region 1 with (fail)
 go_cut [12] (fun pa wc => ∃ (kq : Nat) (v : Bool) (a : Int) (c : Int), pa = .bool v ∧ Aside0 (spec_l7Labels.j0 kq l v i a c = some (T, U, V)) ∧ Aside0 (kq ≤ k) ∧ Aside0 (IsS102 y wc g i a c) ∧ Aside0 (KeepBut w wc g none) ∧ Aside0 (Below y.heap.size y wc))
 case first =>
  have H := M.out
  clear M
  replace H := ie_ H; rcases H with ⟨Y, H⟩ | ⟨Y, H⟩
  ·
   have q : decide (0 < (l.length : Int)) = true := decide_eq_true Y
   have Z : decide (0 < l.length) = true := decide_eq_true (by omega)
   clear Y
   (first | rw [q] | (simp only [i64_w, i32_w]; rw [q]) | skip)
   replace H := bi_ H; obtain ⟨⟨G, I, J⟩, A5, H⟩ := H; (try dsimp only at H)
   have H' := Aside0.mk H
   clear H
   go_wp2_with (first | (go_at_call 70; (with_reducible refine (spec_l1Once.calls g i m n 3 G I J y _ ?side1 ?side2 A5.out).mono ?_); (case side1 => exact IsS102.pk_ d.out); (case side2 => exact hs_ p.out); rintro e w6 ⟨rfl, hi, hb, hk⟩; replace HK := kh_ HK hk; replace p := Aside0.mk (hb); replace d := Aside0.mk (hi); (try clear hb); (try clear hk); (try clear hi)))
   go_meet
   case rel => exact ⟨_, (!G), (I), (J), rs_, H', ⟨by first | omega | exact Nat.le_refl _⟩, ⟨IsS102.pk_ d.out⟩, ⟨ku_ HK.out⟩, ⟨hs_ p.out⟩⟩
  have q : decide (0 < (l.length : Int)) = false := decide_eq_false Y
  have Z : decide (0 < l.length) = false := decide_eq_false (by omega)
  clear Y
  (first | rw [q] | (simp only [i64_w, i32_w]; rw [q]) | skip)
  have H' := Aside0.mk H
  clear H
  go_wp2
  go_meet
  case rel => exact ⟨_, (false), (m), (n), rs_, H', ⟨by first | omega | exact Nat.le_refl _⟩, ⟨IsS102.pk_ d.out⟩, ⟨ku_ HK.out⟩, ⟨hs_ p.out⟩⟩
 case rest =>
  clear M
  obtain ⟨kq, v, a, c, rfl, HA, HJ2, d, HK, p⟩ := hcut
  cases kq with
  | zero => exact absurd HA.out (by simp [spec_l7Labels.j0])
  | succ ra =>
   have H := HA.out
   clear HA
   simp only [spec_l7Labels.j0] at H
   replace H := ib_ H; rcases H with ⟨rfl, H⟩ | ⟨rfl, H⟩
   ·
    obtain ⟨x, hy_⟩ : ∃ y_ : List (S99), y_ = (([] : List (S99))) := ⟨_, rfl⟩
    replace H : ((spec_l1Below.f i a c (l.length : Int)).bind fun bt602 => (if 0 ≤ bt602.1 then (if bt602.1 < (l.length : Int) then (if x.length + ((rd_T29 l bt602.1).f0).length < 4398046511104 then (some ((x ++ ((rd_T29 l bt602.1).f0)), bt602.2.1, bt602.2.2)) else (none)) else (none)) else (none))) = some (T, U, V) := hm_
    have z := Aside0.mk hy_; clear hy_
    replace H := bi_ H; obtain ⟨⟨o, K, L⟩, A8, H⟩ := H; (try dsimp only at H)
    replace H := id_ H; obtain ⟨xa, H⟩ := H
    replace H := id_ H; obtain ⟨sa, H⟩ := H
    replace H := im_ H; obtain ⟨O, H⟩ := H
    obtain ⟨aa, hy_⟩ : ∃ y_ : List (S99), y_ = (x ++ ((rd_T29 l o).f0)) := ⟨_, rfl⟩
    replace H : (some (aa, K, L)) = some (T, U, V) := hm_
    have P := Aside0.mk hy_; clear hy_
    simp only [Option.some.injEq, Prod.mk.injEq] at H
    obtain ⟨rfl, rfl, rfl⟩ := H
    go_wp2_with (first | ((with_reducible refine gd_ 13 rfl ?_); refine Kd.R_lit k99 _ 99 ?hg (N := 13) ?hd (xs := ([] : List (S99))) (inner := []) (ok := fun _ => True) (okp := fun _ => True) ?hr ?hp (fun _ hk => hk) trivial (Below.refl _ _) (Nat.le_refl _) (by simp) ?_; (case hd => rfl); (case hg => rfl); (case hr => first | (go_simp; done) | (go_simp; rfl)); (case hp => exact (Reps.none _ _)); intro ba Ea r hb hg_ hnew_; clear hg_ hnew_; (first | rw [← z.out] at r | (simp only [Int.reduceToNat] at r; rw [← z.out] at r)); have j := rl_ r HK; have A := IsS102.bk_ d hb; have B := kt_ HK hb; have D := st_ p hb; clear d HK p; have d := A; have HK := B; have p := D; clear A B D; clear hb r) | ((with_reducible refine gate_callee (f := 69) rfl ?_); refine gl_ (some 18) Tryz.func69 #[.pointer (some ⟨g, 0, none⟩), .int .i64 (l.length : Int)] ?_; (with_reducible refine (spec_l1Below.calls g i a c (l.length : Int) o K L y _ ?side1 ?side2 A8.out).mono ?_); (case side1 => exact IsS102.pk_ d.out); (case side2 => exact hs_ p.out); rintro e Fa ⟨rfl, hi, hb, hk⟩; refine ⟨_, rfl, ?_⟩; replace j := IsS102.rk_ d j hk; replace HK := kh_ HK hk; replace p := Aside0.mk (hb); replace d := Aside0.mk (hi); (try clear hb); (try clear hk); (try clear hi); have E : 0 ≤ (o : Int) := of_decide_eq_true (by with_reducible assumption); have F : o < (l.length : Int) := of_decide_eq_true (by with_reducible assumption); obtain ⟨ta, ma, na, ca, da, ea, fa, ga, s, t⟩ := at_T29 (Kd.C_foot_now oa.out HK.out) o E F; cases ca; have u := Aside0.mk t; have ha := Aside0.mk s; clear t s; replace E := eq_true E; replace F := eq_true F) | ((with_reducible refine gate_builtin (b := .append) (xs := #[.tmp 13, .tmp 21]) rfl ?_); at_builtin; refine Kd.R_append_rows k99 w.heap.size rfl (.tmp 13) (.tmp 21) 27 99 (.agg #[(.string ⟨#[]⟩), (.string ⟨#[]⟩)]) 32 rfl Tryz.underlying27 info99 rfl (by decide) (by omega) ba x ((rd_T29 l o).f0) _ _ _ (fun _ => True) (fun _ => False) rfl rfl ?aO ?aR (fun _ _ h => h) (fun _ h => h.elim) ?aF (Below.refl _ _) ?aS ?aL ?_; (case aR => repeat (first | exact (by repeat (first | (with_reducible exact u.out) | (with_reducible first | refine ca_ ?_ _ | refine cn_ ?_ _ | refine cd_ ?_) | exact u.out)) | (with_reducible first | refine ca_ ?_ _ | refine cn_ ?_ _ | refine cd_ ?_))); (case aF => exact (fun _ _ => trivial)); (case aO => exact (rp_ j.out)); (case aS => exact (ks_ HK)); (case aL => have := O.out; omega); intro ya Ga ho hb hg hat; rw [← P.out] at ho; replace d := Aside0.mk (IsS102.grown (IsS102.pk_ d.out) hg (IsS102.own_ne d.out j.out (by decide))); replace p := Aside0.mk (below_weaken (hs_ p.out) HL.out hb); replace HK := Aside0.mk (KeepBut.trans (ku_ HK.out) (KeepBut.of_grown hg g) (Kd.R_base2 j.out)); have Q := Aside0.mk (ho); clear j; clear ho hb hg hat))
    go_ret
    exact ⟨_, rr_, rp_ Q.out, IsS102.pk_ d.out, hs_ p.out, ku_ HK.out⟩
   replace H := bi_ H; obtain ⟨⟨ia, ja, ka⟩, ua, H⟩ := H; (try dsimp only at H)
   simp only [Option.some.injEq, Prod.mk.injEq] at H
   obtain ⟨rfl, rfl, rfl⟩ := H
   go_wp2_with (first | ((with_reducible refine gate_callee (f := 88) rfl ?_); refine gl_ (some 24) Tryz.func88 #[.pointer (some ⟨g, 0, none⟩)] ?_; (with_reducible refine (spec_l2Draw.calls ra g i a c ia ja ka y _ ?side1 ?side2 ua.out).mono ?_); (case side1 => exact IsS102.pk_ d.out); (case side2 => exact hs_ p.out); rintro e Ha ⟨za, rfl, la, hi, hb, hk⟩; refine ⟨_, rfl, ?_⟩; have S := rl_ la HK; have A := kh_ HK hk; have B := Aside0.mk (hb); have D := Aside0.mk (hi); clear HK p d; have HK := A; have p := B; have d := D; clear A B D; (try clear hb); (try clear hk); (try clear hi); (try clear la)))
   go_ret
   exact ⟨_, rr_, rp_ S.out, IsS102.pk_ d.out, hs_ p.out, ku_ HK.out⟩
def spec_l4Copy.f (l0_0 : List (S99)) (a0_1 : Int) (a0_2 : Int) (a0_3 : ByteArray) : Option ((List (S99)) × Int × Int × ByteArray) := (some (([] : List (S99)) : List (S99))).bind fun y103 => (if y103.length + l0_0.length < 4398046511104 then (some ((y103 ++ l0_0), a0_1, a0_2, a0_3)) else (none))
theorem spec_l4Copy.calls (r : Option Addr) (s : Nat) (c : List (S99)) (g : Int) (i : Int) (j : ByteArray) (K : List (S99)) (L : Int) (M : Int) (O : ByteArray) (w : World) (t : Kd.C k99 w r c.length c) (u : c.length ≤ s) (h : spec_l4Copy.f c g i j = some (K, L, M, O)) :
  Calls Tryz.prog 63 #[.agg #[.slice r c.length s, .int .i64 g, .int .i64 i, .string j]] w fun e w' => ∃ v0_ : Value, e = .returned (.agg #[v0_, .int .i64 L, .int .i64 M, .string O]) ∧ Kd.R k99 99 w' w.heap.size (fun _ => True) v0_ K ∧ Below w.heap.size w w' := by
 have hu29 := Tryz.underlying29
 have E := Aside0.mk t
 have T := Aside0.mk u
 clear t u
 have q := Aside0.mk (Below.refl w.heap.size w)
 have H : ((some (([] : List (S99)) : List (S99))).bind fun k => (if k.length + c.length < 4398046511104 then (some ((k ++ c), g, i, j)) else (none))) = some (K, L, M, O) := h
 clear h
 obtain ⟨k, hy_⟩ : ∃ y_ : List (S99), y_ = (([] : List (S99))) := ⟨_, rfl⟩
 replace H : (if k.length + c.length < 4398046511104 then (some ((k ++ c), g, i, j)) else (none)) = some (K, L, M, O) := hm_
 have v := Aside0.mk hy_; clear hy_
 replace H := im_ H; obtain ⟨P, H⟩ := H
 obtain ⟨x, hy_⟩ : ∃ y_ : List (S99), y_ = (k ++ c) := ⟨_, rfl⟩
 replace H : (some (x, g, i, j)) = some (K, L, M, O) := hm_
 have F := Aside0.mk hy_; clear hy_
 simp only [Option.some.injEq, Prod.mk.injEq] at H
 obtain ⟨rfl, rfl, rfl, rfl⟩ := H
 go_enter Tryz.func63, Tryz.ntmps63
 go_wp2_with (first | ((with_reducible refine gd_ 1 rfl ?_); refine bv_ 1 #[.slice r c.length s, .int .i64 g, .int .i64 i, .string j] 29 ?_; intro G hg w3 m hb; have a := Aside0.mk (m); have I := gq_ hg q; replace q := st_ q hb; have U := Ge_.mk I.out; clear hb m hg) | ((with_reducible refine gd_ 2 rfl ?_); refine bv_ 2 #[.slice none 0 0, .int .i64 0, .int .i64 0, .string (⟨#[]⟩ : ByteArray)] 29 ?_; intro y hg w4 m hb; have d := Aside0.mk (m); have J := gq_ hg q; replace q := st_ q hb; have V := Ge_.mk J.out; obtain ⟨n, o, a⟩ := nb_ a hg hb; clear hb m hg) | ((with_reducible refine gd_ 3 rfl ?_); refine Kd.R_lit k99 _ 99 ?hg (N := 3) ?hd (xs := ([] : List (S99))) (inner := []) (ok := fun _ => True) (okp := fun _ => True) ?hr ?hp (fun _ hk => hk) trivial (Below.refl _ _) (Nat.le_refl _) (by simp) ?_; (case hd => rfl); (case hg => rfl); (case hr => first | (go_simp; done) | (go_simp; rfl)); (case hp => exact (Reps.none _ _)); intro Q w5 z hb hg_ hnew_; clear hg_ hnew_; (first | rw [← v.out] at z | (simp only [Int.reduceToNat] at z; rw [← v.out] at z)); have l := rw_ z q; replace a := bk2_ a hb; replace d := bk2_ d hb; replace q := st_ q hb; clear hb z; have ma := n.out; have na := o.out; obtain ⟨oa, pa, qa, ra, sa, ta, ua, va⟩ := bc4_ a.out) | ((with_reducible refine gate_builtin (b := .append) (xs := #[.tmp 3, .tmp 5]) rfl ?_); at_builtin; refine Kd.R_append_rows k99 (w0 := w) w.heap.size rfl (.tmp 3) (.tmp 5) 27 99 (.agg #[(.string ⟨#[]⟩), (.string ⟨#[]⟩)]) 32 rfl Tryz.underlying27 info99 rfl (by decide) (by omega) Q k c _ _ _ (fun _ => True) (fun _ => False) rfl rfl ?aO ?aR (fun _ _ h => h) (fun _ h => h.elim) ?aF ?aB ?aS ?aL ?_; (case aR => repeat (first | exact (Kd.C_below E.out q.out) | (with_reducible first | refine ca_ ?_ _ | refine cn_ ?_ _ | refine cd_ ?_))); (case aB => exact (hs_ q.out)); (case aF => exact (fun _ _ => trivial)); (case aO => exact (rp_ l.out)); (case aS => exact (below_size (hs_ q.out))); (case aL => have := P.out; omega); intro wa w9 ho hb hg hat; rw [← F.out] at ho; replace a := Aside0.mk (blk_grown (bq_ a.out) hg (Kd.R_ne l.out a.out (by decide))); replace d := Aside0.mk (blk_grown (bq_ d.out) hg (Kd.R_ne l.out d.out (by decide))); replace q := Aside0.mk (hb); have A := Aside0.mk (ho); clear l; clear ho hb hg hat; obtain ⟨B, D, S⟩ := Kd.R_slice A.out; subst S; obtain ⟨W, X, Y, Z, aa, ba, ca, da⟩ := bc4_ a.out; obtain ⟨ea, fa, ga, ha, ia, ja, ka, la⟩ := bc4_ d.out))
 refine bodyPost_ret (results_cell_row rfl _ _ y 29 #[.slice B x.length D, .int .i64 g, .int .i64 i, .string j] (0, 0) _ rfl (bp_ d.out) Tryz.underlying29 rfl (by kernel_rfl)) rfl ?_
 exact ⟨_, rr_, Kd.R_mono (rf_ y (Kd.R_far (p := ⟨G, 0, none⟩) (Kd.R_types (Kd.R_types A.out a.out (by decide)) d.out (by decide)) (fun _ hk => hk.1.2) (.slice B x.length D)) (fun _ hk => hk.2)) (fun _ hk => trivial), hs_ q.out⟩
def spec_l4All.l0 : Nat → List (S29) → List (S29) → Int → Option ((List (S29)))
 | 0, _, _, _ => none
 | k + 1, x0, x3, x4 => if x4 < (x0.length : Int) then (if 0 ≤ x4 then ((spec_l4Copy.f ((rd_T29 x0 x4).f0) ((rd_T29 x0 x4).f1) ((rd_T29 x0 x4).f2) ((rd_T29 x0 x4).f3)).bind fun bt113 => (if x3.length < 2513169434916 then (spec_l4All.l0 k x0 (x3 ++ [(⟨bt113.1, bt113.2.1, bt113.2.2.1, bt113.2.2.2⟩ : S29)]) (wrap64 (x4 + 1))) else (none))) else (none)) else (some x3)
def spec_l4All.f (k : Nat) (l0 : List (S29)) : Option ((List (S29))) := spec_l4All.l0 k l0 (([] : List (S29))) 0
theorem spec_l4All.calls (k : Nat) (A0 : Option Addr) (c0 : Nat) (l0 : List (S29)) (r : List (S29)) (w : World) (ba : Kd.C k29 w A0 l0.length l0) (ca : l0.length ≤ c0) (h : spec_l4All.f k l0 = some r) :
  Calls Tryz.prog 82 #[.slice A0 l0.length c0] w fun e w' => ∃ v0_ : Value, e = .returned (v0_) ∧ Kd.S k29 29 w' w.heap.size (fun _ => True) v0_ r ∧ Below w.heap.size w w' := by
 have hu29 := Tryz.underlying29
 have ka := Aside0.mk ba
 have Ma := Aside0.mk ca
 clear ba ca
 have B := Aside0.mk (Below.refl w.heap.size w)
 have H : (spec_l4All.l0 k l0 (([] : List (S29))) 0) = some r := h
 clear h
 obtain ⟨T, hy_⟩ : ∃ y_ : List (S29), y_ = (([] : List (S29))) := ⟨_, rfl⟩
 replace H : (spec_l4All.l0 k l0 T 0) = some r := hm_
 have G := Aside0.mk hy_; clear hy_
 have H' := Aside0.mk H
 clear H
 go_enter Tryz.func82, Tryz.ntmps82
 go_wp2_with (first | ((with_reducible refine gd_ 6 rfl ?_); refine Kd.S_lit k29 _ 29 ?hg (N := 6) ?hd (xs := ([] : List (S29))) (inner := []) (ok := fun _ => True) (okp := fun _ => True) ?hr ?hp (fun _ hk => hk) trivial (Below.refl _ _) (Nat.le_refl _) (by simp) ?_; (case hd => rfl); (case hg => rfl); (case hr => first | (go_simp; done) | (go_simp; rfl)); (case hp => exact (Reps.none _ _)); intro Ha w2 I hb hg_ hnew_; clear hg_ hnew_; (first | rw [← G.out] at I | (simp only [Int.reduceToNat] at I; rw [← G.out] at I)); have W := sw_ I B; have da := st_ B hb; clear B; have B := da; clear da; clear hb I))
 go_loopg [3, 4] k (fun kq v3 v4 w' => ∃ (D : List (S29)) (a : Int), v4 = .int .i64 a ∧ Aside0 (spec_l4All.l0 kq l0 D a = some r) ∧ Aside0 (kq ≤ k) ∧ Aside0 (Kd.S k29 29 w' w.heap.size (fun _ => True) v3 D) ∧ Aside0 (Below w.heap.size w w'))
 case atStart => exact ⟨(T), (0), rs_, H', ⟨Nat.le_refl _⟩, ⟨sp_ W.out⟩, ⟨hs_ B.out⟩⟩
 case round =>
  clear H'
  obtain ⟨D, a, rfl, HA, ea, i, B⟩ := hrel
  cases gk with
  | zero => exact absurd HA.out (by simp [spec_l4All.l0])
  | succ k1 =>
   have H := HA.out
   clear HA
   simp only [spec_l4All.l0] at H
   replace H := ie_ H; rcases H with ⟨c4, H⟩ | ⟨c4, H⟩
   ·
    have ga := decide_eq_true c4
    clear c4
    replace H := id_ H; obtain ⟨Ja, H⟩ := H
    replace H := bi_ H; obtain ⟨⟨j, n, q, s⟩, A6, H⟩ := H; (try dsimp only at H)
    replace H := im_ H; obtain ⟨ha, H⟩ := H
    obtain ⟨U, hy_⟩ : ∃ y_ : List (S29), y_ = (D ++ [(⟨j, n, q, s⟩ : S29)]) := ⟨_, rfl⟩
    replace H : (spec_l4All.l0 k1 l0 U (wrap64 (a + 1))) = some r := hm_
    have X := Aside0.mk hy_; clear hy_
    have H' := Aside0.mk H
    clear H
    obtain ⟨J, K⟩ : 0 ≤ (a : Int) ∧ a < (l0.length : Int) := pq_
    obtain ⟨ma, O, P, ia, m, u, x, y, E, F⟩ := at_T29 ka.out a J K
    cases ia
    replace m := c4_ B m u x y; clear u x y; obtain ⟨m, u, x, y⟩ := m
    have L := Aside0.mk F
    have M := Aside0.mk E
    clear F E
    replace J := eq_true J; replace K := eq_true K
    go_wp2_with (first | ((with_reducible refine gate_callee (f := 63) rfl ?_); refine gl_ (some 17) Tryz.func63 #[.agg #[.slice O ((rd_T29 l0 a).f0).length P, .int .i64 ((rd_T29 l0 a).f1), .int .i64 ((rd_T29 l0 a).f2), .string ((rd_T29 l0 a).f3)]] ?_; (with_reducible refine (spec_l4Copy.calls _ _ ((rd_T29 l0 a).f0) ((rd_T29 l0 a).f1) ((rd_T29 l0 a).f2) ((rd_T29 l0 a).f3) j n q s _ ?side1 ?side2 A6.out).mono ?_); (case side1 => exact cp_ ((Kd.C_below L.out B.out))); (case side2 => exact M.out); rintro e w8 ⟨Ka, rfl, Y, hb⟩; refine ⟨_, rfl, ?_⟩; replace i := Aside0.mk (Kd.S_elder' (sp_ i.out) (Kd.R_base Y) hb); have l := rw_ Y B; replace B := st_ B hb; (try clear hb); (try clear hk); (try clear Y)) | ((with_reducible refine gd_ 5 rfl ?_); refine bv_ 5 #[.slice none 0 0, .int .i64 0, .int .i64 0, .string (⟨#[]⟩ : ByteArray)] 29 ?_; intro c hg w9 V hb; replace i := se_ i hg hb; replace l := rb_ l hb; have d := Aside0.mk (V); have Z := gq_ hg B; replace B := st_ B hb; have na := Ge_.mk Z.out; clear hb V hg; obtain ⟨z, A, ja⟩ := Kd.R_slice l.out; subst ja; obtain ⟨oa, pa, qa, ra, sa, ta, ua, va⟩ := bc4_ d.out) | ((with_reducible refine gate_store (t := 29) (p := 5) rfl ?_); refine store_event (t := 29) (p := 5) (v := ?vo_w12) (w1 := ((((w9.setCell ⟨c, 0, none⟩ (.slice z j.length A)).setCell ⟨c, 1, none⟩ (.int .i64 n)).setCell ⟨c, 2, none⟩ (.int .i64 q)).setCell ⟨c, 3, none⟩ (.string s))) ?hg ?ho ?hn ?hr ?_; (case ho => rfl); (case hg => rfl); (case hn => rfl); (case hr => first | (go_simp; done) | (go_simp; rfl)); intro Q hw; replace i : Aside0 (Kd.S k29 29 Q w.heap.size (fun k_ => some k_ ≠ (.slice z j.length A : Value).ownBlock ∧ k_ ≠ c) u3 D) := ⟨(by rw [hw]; exact (Kd.S_mono (sf_ c i.out (fun _ hk => hk.2)) (fun _ hk => ⟨hk.1.2, hk.2⟩)))⟩; replace l : Aside0 (Kd.R k99 99 Q w.heap.size (fun _ => True) (.slice z j.length A) j) := ⟨(by rw [hw]; exact (Kd.R_mono (ry_ l.out d.out) (fun _ hk => trivial)))⟩; replace d : Aside0 (Q.heap[c]? = some (.cells #[.slice z j.length A, .int .i64 n, .int .i64 q, .string s] 29 (0, 0))) := ⟨(by rw [hw]; exact (bp_ d.out))⟩; replace B : Aside0 (Below w.heap.size w Q) := ⟨(by rw [hw]; exact (hs_ B.out))⟩; clear hw; obtain ⟨xa, ya, za, Aa, Ba, Ca, Da, Ea⟩ := bc4_ d.out) | ((with_reducible refine gate_builtin (b := .append) (xs := #[.tmp 18, .tmp 20]) rfl ?_); at_builtin; refine Kd.S_append k29 (w0 := w) w.heap.size rfl (.tmp 18) (.tmp 20) 40 29 (.agg #[(.slice none 0 0), (.int .i64 0), (.int .i64 0), (.string ⟨#[]⟩)]) 56 rfl Tryz.underlying40 info29 rfl (by decide) (by omega) u3 D (⟨j, n, q, s⟩ : S29) [.slice z j.length A, .int .i64 n, .int .i64 q, .string s] (fun k_ => k_ ≠ c) (fun k_ => some k_ = (.slice z j.length A : Value).ownBlock) rfl rfl ?aP (fun k_ hk_ => ((Kd.R_mono (ok' := fun k_ => ((fun k_ => k_ ≠ c)) k_ ∧ some k_ ≠ (u3 : Value).ownBlock) (Kd.R_types (Kd.R_apart' (l.out) (Kd.S_typed i.out) (by decide)) d.out (by decide)) (fun k_ hk => ⟨hk.2, hk.1.2⟩))).1 k_ hk_.symm) ?aF ?aO ?aB ?aS ?aL ?_; (case aP => exact k29_mkM _ _ _ (⟨j, n, q, s⟩ : S29) (Kd.R_mono (Kd.R_tight rfl (Kd.R_mono (ok' := fun k_ => ((fun k_ => k_ ≠ c)) k_ ∧ some k_ ≠ (u3 : Value).ownBlock) (Kd.R_types (Kd.R_apart' (l.out) (Kd.S_typed i.out) (by decide)) d.out (by decide)) (fun k_ hk => ⟨hk.2, hk.1.2⟩))) (fun _ h_ => h_))); (case aB => exact (hs_ B.out)); (case aF => exact (fun k_ hk => Kd.freshB (g := c) (o := .cells #[.slice z j.length A, .int .i64 n, .int .i64 q, .string s] 29 (0, 0)) (pb_ d.out) k_ hk)); (case aO => exact (Kd.S_mono (sp_ i.out) (fun k_ hk => ⟨hk.2, fun e_ => hk.1 e_⟩))); (case aS => exact (below_size (hs_ B.out))); (case aL => have := ha.out; omega); intro La Ra ho hb hg hat; rw [← X.out] at ho; replace d := Aside0.mk (blk_grown (bq_ d.out) hg (Kd.S_away i.out (fun _ hk => hk.2))); replace B := Aside0.mk (hb); have aa := Aside0.mk (ho); clear i l; clear ho hb hg hat))
    go_roundg k1
    case measure => have := ea.out; omega
    case rel => exact ⟨(U), (wrap64 (a + 1)), rs_, H', ⟨by have := ea.out; omega⟩, ⟨Kd.S_mono (sp_ aa.out) (fun _ hk => trivial)⟩, ⟨hs_ B.out⟩⟩
   have ga : decide (a < (l0.length : Int)) = false := decide_eq_false c4
   clear c4
   obtain rfl := Option.some.inj H
   go_wp2
   go_ret
   exact ⟨_, rr_, sp_ i.out, hs_ B.out⟩
def spec_AlarmsIn.l0 : Nat → List (S29) → Int → Int → Int → List (S80) → Option ((List (S29)))
 | 0, _, _, _, _, _ => none
 | k + 1, x3, x4, x124000, x124001, x124002 => if x4 < (x124002.length : Int) then (if 0 ≤ x4 then ((spec_l4All.f k ((rd_T80 x124002 x4).f1)).bind fun t128 => (if x3.length + t128.length < 2513169434916 then (spec_AlarmsIn.l0 k (x3 ++ t128) (wrap64 (x4 + 1)) x124000 x124001 x124002) else (none))) else (none)) else (some x3)
def spec_AlarmsIn.f (k : Nat) (a0_0 : Int) (a0_1 : Int) (l0_2 : List (S80)) : Option ((List (S29))) := spec_AlarmsIn.l0 k (([] : List (S29))) 0 a0_0 a0_1 l0_2
theorem spec_AlarmsIn.calls (k : Nat) (i : Int) (j : Int) (t : Option Addr) (u : Nat) (c : List (S80)) (r : List (S29)) (w : World) (x : Kd.C k80 w t c.length c) (y : c.length ≤ u) (h : spec_AlarmsIn.f k i j c = some r) :
  Calls Tryz.prog 27 #[.agg #[.int .i64 i, .int .i64 j, .slice t c.length u]] w fun e w' => ∃ v0_ : Value, e = .returned (v0_) ∧ Kd.S k29 29 w' w.heap.size (fun _ => True) v0_ r ∧ Below w.heap.size w w' := by
 have hu26 := Tryz.underlying26
 have Q := Aside0.mk x
 have ga := Aside0.mk y
 clear x y
 have n := Aside0.mk (Below.refl w.heap.size w)
 have H : (spec_AlarmsIn.l0 k (([] : List (S29))) 0 i j c) = some r := h
 clear h
 obtain ⟨M, hy_⟩ : ∃ y_ : List (S29), y_ = (([] : List (S29))) := ⟨_, rfl⟩
 replace H : (spec_AlarmsIn.l0 k M 0 i j c) = some r := hm_
 have z := Aside0.mk hy_; clear hy_
 have H' := Aside0.mk H
 clear H
 go_enter Tryz.func27, Tryz.ntmps27
 go_wp2_with (first | ((with_reducible refine gd_ 1 rfl ?_); refine bv_ 1 #[.int .i64 i, .int .i64 j, .slice t c.length u] 26 ?_; intro R hg w2 O hb; have a := Aside0.mk (O); have T := gq_ hg n; replace n := st_ n hb; have ha := Ge_.mk T.out; clear hb O hg) | ((with_reducible refine gd_ 5 rfl ?_); refine Kd.S_lit k29 _ 29 ?hg (N := 5) ?hd (xs := ([] : List (S29))) (inner := []) (ok := fun _ => True) (okp := fun _ => True) ?hr ?hp (fun _ hk => hk) trivial (Below.refl _ _) (Nat.le_refl _) (by simp) ?_; (case hd => rfl); (case hg => rfl); (case hr => first | (go_simp; done) | (go_simp; rfl)); (case hp => exact (Reps.none _ _)); intro ra w3 A hb hg_ hnew_; clear hg_ hnew_; (first | rw [← z.out] at A | (simp only [Int.reduceToNat] at A; rw [← z.out] at A)); have U := sw_ A n; replace a := bk2_ a hb; replace n := st_ n hb; clear hb A))
 go_loopg [3, 4] k (fun kq v3 v4 w' => ∃ (o : List (S29)) (d : Int), v4 = .int .i64 d ∧ Aside0 (spec_AlarmsIn.l0 kq o d i j c = some r) ∧ Aside0 (kq ≤ k) ∧ Aside0 (Kd.S k29 29 w' w.heap.size (fun _ => True) v3 o) ∧ Aside0 (w'.heap[R]? = some (.cells #[.int .i64 i, .int .i64 j, (.slice t c.length u)] 26 (0, 0))) ∧ Aside0 (Below w.heap.size w w'))
 case atStart => exact ⟨(M), (0), rs_, H', ⟨Nat.le_refl _⟩, ⟨sp_ U.out⟩, ⟨bq_ a.out⟩, ⟨hs_ n.out⟩⟩
 case round =>
  clear H'
  obtain ⟨o, d, rfl, HA, Z, l, a, n⟩ := hrel
  cases gk with
  | zero => exact absurd HA.out (by simp [spec_AlarmsIn.l0])
  | succ k1 =>
   have H := HA.out
   clear HA
   simp only [spec_AlarmsIn.l0] at H
   replace H := ie_ H; rcases H with ⟨c5, H⟩ | ⟨c5, H⟩
   ·
    have ba := decide_eq_true c5
    clear c5
    replace H := id_ H; obtain ⟨sa, H⟩ := H
    replace H := bi_ H; obtain ⟨B, A7, H⟩ := H
    replace H := im_ H; obtain ⟨ca, H⟩ := H
    obtain ⟨P, hy_⟩ : ∃ y_ : List (S29), y_ = (o ++ B) := ⟨_, rfl⟩
    replace H : (spec_AlarmsIn.l0 k1 P (wrap64 (d + 1)) i j c) = some r := hm_
    have V := Aside0.mk hy_; clear hy_
    have H' := Aside0.mk H
    clear H
    obtain ⟨ta, ua, va, wa, xa, ya⟩ := bc3_ a.out
    obtain ⟨D, E⟩ : 0 ≤ (d : Int) ∧ d < (c.length : Int) := pq_
    obtain ⟨ka, J, K, da, g, m, p, q⟩ := at_T80 Q.out d D E
    cases da
    replace g := c2_ n g m; clear m; obtain ⟨g, m⟩ := g
    have F := Aside0.mk q
    have G := Aside0.mk p
    clear q p
    replace D := eq_true D; replace E := eq_true E
    go_wp2_with (first | ((with_reducible refine gate_callee (f := 82) rfl ?_); refine gl_ (some 20) Tryz.func82 #[.slice J ((rd_T80 c d).f1).length K] ?_; (with_reducible refine (spec_l4All.calls k1 _ _ ((rd_T80 c d).f1) B _ ?side1 ?side2 A7.out).mono ?_); (case side1 => exact cp_ ((Kd.C_below F.out n.out))); (case side2 => exact G.out); rintro e Ga ⟨za, rfl, W, hb⟩; refine ⟨_, rfl, ?_⟩; obtain ⟨fa, I⟩ := Kd.S_name W; replace l := su_ I (sp_ l.out) hb; have s := sg_ I W n; replace a := bk2_ a hb; replace n := st_ n hb; (try clear hb); (try clear hk); (try clear W); obtain ⟨Aa, Ba, ea⟩ := Kd.S_slice s.out; subst ea; obtain ⟨X, L, v⟩ := Kd.S_fp ((Kd.S_mono s.out (fun k_ hk => (⟨hk, fun ez_ => Nat.lt_irrefl _ (Nat.lt_of_lt_of_le ((Kd.S_R l.out).1 _ ez_.symm).2 hk.2)⟩ : _ ∧ some k_ ≠ (u3 : Value).ownBlock))))) | ((with_reducible refine gate_builtin (b := .append) (xs := #[.tmp 13, .tmp 20]) rfl ?_); at_builtin; refine Kd.S_append_rows k29 (w0 := w) w.heap.size rfl (.tmp 13) (.tmp 20) 40 29 (.agg #[(.slice none 0 0), (.int .i64 0), (.int .i64 0), (.string ⟨#[]⟩)]) 56 rfl Tryz.underlying40 info29 rfl (by decide) (by omega) u3 o B _ _ _ (fun _ => True) X rfl rfl ?aR (fun k_ hk_ => ⟨trivial, (v k_ hk_).1.2⟩) ?aF ?aO ?aB ?aS ?aL ?_; (case aR => exact L); (case aB => exact (hs_ n.out)); (case aF => exact (fun _ _ => trivial)); (case aO => exact (Kd.S_mono (sp_ l.out) (fun k_ hk => ⟨trivial, fun e_ => (fun ez_ => Nat.lt_irrefl _ (Nat.lt_of_lt_of_le hk.2 (v _ ez_).1.1.2)) e_⟩))); (case aS => exact (below_size (hs_ n.out))); (case aL => have := ca.out; omega); intro Ca Ia ho hb hg hat; rw [← V.out] at ho; replace a := Aside0.mk (blk_grown (bq_ a.out) hg (Kd.S_ne l.out a.out (by decide))); replace n := Aside0.mk (hb); have Y := Aside0.mk (ho); clear l s; clear ho hb hg hat))
    go_roundg k1
    case measure => have := Z.out; omega
    case rel => exact ⟨(P), (wrap64 (d + 1)), rs_, H', ⟨by have := Z.out; omega⟩, ⟨sp_ Y.out⟩, ⟨bq_ a.out⟩, ⟨hs_ n.out⟩⟩
   have ba : decide (d < (c.length : Int)) = false := decide_eq_false c5
   clear c5
   obtain rfl := Option.some.inj H
   obtain ⟨la, ma, na, oa, pa, qa⟩ := bc3_ a.out
   go_wp2
   go_ret
   exact ⟨_, rr_, sp_ l.out, hs_ n.out⟩
def spec_Less.f (a0 : ByteArray) (a1 : ByteArray) : Option (Bool) := some (Op.bytesLess a0.toList a1.toList)
theorem spec_Less.calls (a : ByteArray) (b : ByteArray) (r : Bool) (w : World) (h : spec_Less.f a b = some r) :
  Calls Tryz.prog 128 #[.string a, .string b] w fun e w' => e = .returned (.bool r) ∧ Drawn0 w w' := by
 have H : (some (Op.bytesLess a.toList b.toList)) = some r := h
 clear h
 obtain rfl := Option.some.inj H
 go_enter Tryz.func128, Tryz.ntmps128
 go_wp2
 go_ret
 exact ⟨by first | rfl | (simp; done) | (simp [*]; done), by repeat (first | exact Drawn0.refl _ | apply Drawn0.step)⟩
mutual
def spec_SetLess.l0 : Nat → List (S99) → List (S99) → Int → Option (Bool)
 | 0, _, _, _ => none
 | k + 1, x0, x1, x5 => if x5 < (x0.length : Int) then (spec_SetLess.j1 k x0 x1 x5 (decide (x5 < (x1.length : Int)))) else (spec_SetLess.j1 k x0 x1 x5 false)
def spec_SetLess.j1 : Nat → List (S99) → List (S99) → Int → Bool → Option (Bool)
 | 0, _, _, _, _ => none
 | k + 1, x0, x1, x5, x15 => if x15 = true then (if 0 ≤ x5 then (if x5 < (x0.length : Int) then (if x5 < (x1.length : Int) then (if ((rd_T99 x0 x5).f0).toList = ((rd_T99 x1 x5).f0).toList then (if ((rd_T99 x0 x5).f1).toList = ((rd_T99 x1 x5).f1).toList then (spec_SetLess.l0 k x0 x1 (wrap64 (x5 + 1))) else ((spec_Less.f ((rd_T99 x0 x5).f1) ((rd_T99 x1 x5).f1)).bind fun t1247 => (some t1247))) else ((spec_Less.f ((rd_T99 x0 x5).f0) ((rd_T99 x1 x5).f0)).bind fun t1250 => (some t1250))) else (none)) else (none)) else (none)) else (some (decide ((x0.length : Int) < (x1.length : Int))))
end
def spec_SetLess.f (k : Nat) (l0 : List (S99)) (l1 : List (S99)) : Option (Bool) := spec_SetLess.l0 k l0 l1 0
theorem spec_SetLess.calls (k : Nat) (A0 : Option Addr) (c0 : Nat) (l0 : List (S99)) (A1 : Option Addr) (c1 : Nat) (p : List (S99)) (r : Bool) (w : World) (va : Kd.C k99 w A0 l0.length l0) (wa : l0.length ≤ c0) (xa : Kd.C k99 w A1 p.length p) (ya : p.length ≤ c1) (h : spec_SetLess.f k l0 p = some r) :
  Calls Tryz.prog 113 #[.slice A0 l0.length c0, .slice A1 p.length c1] w fun e w' => e = .returned (.bool r) ∧ Drawn0 w w' := by
 have B := Aside0.mk va
 have Ma := Aside0.mk wa
 clear va wa
 have D := Aside0.mk xa
 have Na := Aside0.mk ya
 clear xa ya
 have H : (spec_SetLess.l0 k l0 p 0) = some r := h
 clear h
 have H' := Aside0.mk H
 clear H
 go_enter Tryz.func113, Tryz.ntmps113
 go_wp2
 repeat (go_quiet (fail); try go_wp2)
 go_loopg [5] k (fun kq v5 w' => ∃ (a : Int), v5 = .int .i64 a ∧ Aside0 (spec_SetLess.l0 kq l0 p a = some r) ∧ Aside0 (kq ≤ k) ∧ Drawn0 w w')
 case atStart => exact ⟨(0), rs_, H', ⟨Nat.le_refl _⟩, by repeat (first | exact Drawn0.refl _ | apply Drawn0.step)⟩
 case round =>
  clear H'
  obtain ⟨a, rfl, HA, X, ⟨m1, rfl⟩⟩ := hrel
  cases gk with
  | zero => exact absurd HA.out (by simp [spec_SetLess.l0])
  | succ k1 =>
   have H := HA.out
   clear HA
   simp only [spec_SetLess.l0] at H
   have da := Aside0.mk H
   clear H
   go_upto_region 2 with (fail)
   repeat (go_quiet (fail); go_upto_region 2 with (fail))
   go_cut [15] (fun Da wc => ∃ (kq : Nat) (E : Bool), Da = .bool E ∧ Aside0 (spec_SetLess.j1 kq l0 p a E = some r) ∧ Aside0 (kq ≤ k1) ∧ Drawn0 w wc)
   case first =>
    have H := da.out
    clear da
    replace H := ie_ H; rcases H with ⟨c4, H⟩ | ⟨c4, H⟩
    ·
     have A := decide_eq_true c4
     clear c4
     (first | rw [A] | (simp only [i64_w, i32_w]; rw [A]) | skip)
     have H' := Aside0.mk H
     clear H
     go_wp2
     repeat (go_quiet (fail); try go_wp2)
     go_meet
     case rel => exact ⟨_, (decide (a < (p.length : Int))), rs_, H', ⟨by have := X.out; first | omega | exact Nat.le_refl _⟩, by repeat (first | exact Drawn0.refl _ | apply Drawn0.step)⟩
    have A : decide (a < (l0.length : Int)) = false := decide_eq_false c4
    clear c4
    (first | rw [A] | (simp only [i64_w, i32_w]; rw [A]) | skip)
    have H' := Aside0.mk H
    clear H
    go_wp2
    repeat (go_quiet (fail); try go_wp2)
    go_meet
    case rel => exact ⟨_, (false), rs_, H', ⟨by have := X.out; first | omega | exact Nat.le_refl _⟩, by repeat (first | exact Drawn0.refl _ | apply Drawn0.step)⟩
   case rest =>
    clear da
    obtain ⟨kq, E, rfl, HA, HJ2, ⟨mc2, rfl⟩⟩ := hcut
    cases kq with
    | zero => exact absurd HA.out (by simp [spec_SetLess.j1])
    | succ Ea =>
     have H := HA.out
     clear HA
     simp only [spec_SetLess.j1] at H
     replace H := ib_ H; rcases H with ⟨rfl, H⟩ | ⟨rfl, H⟩
     ·
      replace H := id_ H; obtain ⟨Ja, H⟩ := H
      replace H := id_ H; obtain ⟨Ka, H⟩ := H
      replace H := id_ H; obtain ⟨La, H⟩ := H
      replace H := ie_ H; rcases H with ⟨c9, H⟩ | ⟨c9, H⟩
      ·
       have Aa : (((rd_T99 l0 a).f0).toList == ((rd_T99 p a).f0).toList) = true := beq_iff_eq.mpr c9
       have Ba : (((rd_T99 l0 a).f0).toList != ((rd_T99 p a).f0).toList) = false := bne_eq_false_iff_eq.mpr c9
       clear c9
       replace H := ie_ H; rcases H with ⟨S, H⟩ | ⟨S, H⟩
       ·
        have ea : (((rd_T99 l0 a).f1).toList == ((rd_T99 p a).f1).toList) = true := beq_iff_eq.mpr S
        have fa : (((rd_T99 l0 a).f1).toList != ((rd_T99 p a).f1).toList) = false := bne_eq_false_iff_eq.mpr S
        clear S
        have H' := Aside0.mk H
        clear H
        obtain ⟨b, c⟩ : 0 ≤ (a : Int) ∧ a < (l0.length : Int) := pq_
        obtain ⟨i, q, t, u⟩ := at_T99 B.out a b c
        cases q
        replace b := eq_true b; replace c := eq_true c
        obtain ⟨d, g⟩ : 0 ≤ (a : Int) ∧ a < (p.length : Int) := pq_
        obtain ⟨j, s, v, x⟩ := at_T99 D.out a d g
        cases s
        replace d := eq_true d; replace g := eq_true g
        obtain ⟨l, m⟩ : 0 ≤ (a : Int) ∧ a < (l0.length : Int) := pq_
        obtain ⟨y, F, T, U⟩ := at_T99 B.out a l m
        obtain rfl : i = y := (by injection F)
        replace l := eq_true l; replace m := eq_true m
        obtain ⟨n, o⟩ : 0 ≤ (a : Int) ∧ a < (p.length : Int) := pq_
        obtain ⟨z, G, V, W⟩ := at_T99 D.out a n o
        obtain rfl : j = z := (by injection G)
        replace n := eq_true n; replace o := eq_true o
        go_wp2
        repeat (go_quiet (fail); try go_wp2)
        go_roundg Ea
        case measure => have := X.out; have := HJ2.out; omega
        case rel => exact ⟨(wrap64 (a + 1)), rs_, H', ⟨by have := X.out; have := HJ2.out; omega⟩, by repeat (first | exact Drawn0.refl _ | apply Drawn0.step)⟩
       have ea : (((rd_T99 l0 a).f1).toList == ((rd_T99 p a).f1).toList) = false := beq_eq_false_iff_ne.mpr S
       have fa : (((rd_T99 l0 a).f1).toList != ((rd_T99 p a).f1).toList) = true := bne_iff_ne.mpr S
       replace H := bi_ H; obtain ⟨I, ga, H⟩ := H
       obtain rfl := Option.some.inj H
       obtain ⟨b, c⟩ : 0 ≤ (a : Int) ∧ a < (l0.length : Int) := pq_
       obtain ⟨i, q, t, u⟩ := at_T99 B.out a b c
       cases q
       replace b := eq_true b; replace c := eq_true c
       obtain ⟨d, g⟩ : 0 ≤ (a : Int) ∧ a < (p.length : Int) := pq_
       obtain ⟨j, s, v, x⟩ := at_T99 D.out a d g
       cases s
       replace d := eq_true d; replace g := eq_true g
       obtain ⟨l, m⟩ : 0 ≤ (a : Int) ∧ a < (l0.length : Int) := pq_
       obtain ⟨y, F, T, U⟩ := at_T99 B.out a l m
       obtain rfl : i = y := (by injection F)
       replace l := eq_true l; replace m := eq_true m
       obtain ⟨n, o⟩ : 0 ≤ (a : Int) ∧ a < (p.length : Int) := pq_
       obtain ⟨z, G, V, W⟩ := at_T99 D.out a n o
       obtain rfl : j = z := (by injection G)
       replace n := eq_true n; replace o := eq_true o
       obtain ⟨J, K⟩ : 0 ≤ (a : Int) ∧ a < (l0.length : Int) := pq_
       obtain ⟨Y, ha, na, oa⟩ := at_T99 B.out a J K
       obtain rfl : i = Y := (by injection ha)
       replace J := eq_true J; replace K := eq_true K
       obtain ⟨L, M⟩ : 0 ≤ (a : Int) ∧ a < (p.length : Int) := pq_
       obtain ⟨Z, ia, pa, qa⟩ := at_T99 D.out a L M
       obtain rfl : j = Z := (by injection ia)
       replace L := eq_true L; replace M := eq_true M
       go_wp2_with (first | (go_at_call 128; (with_reducible refine (spec_Less.calls ((rd_T99 l0 a).f1) ((rd_T99 p a).f1) I _ ga.out).mono ?_); rintro e w' ⟨rfl, ⟨nd, rfl⟩⟩; (try first | exact ⟨rfl, _, World.drewN_drewN _ _ _⟩ | exact ⟨rfl, _, Eq.trans (World.drewN_drewN _ _ _) (congrArg (World.drewN _) (Nat.add_assoc _ _ _))⟩)))
       repeat (go_quiet (first | (go_at_call 128; (with_reducible refine (spec_Less.calls ((rd_T99 l0 a).f1) ((rd_T99 p a).f1) I _ ga.out).mono ?_); rintro e w' ⟨rfl, ⟨nd, rfl⟩⟩; (try first | exact ⟨rfl, _, World.drewN_drewN _ _ _⟩ | exact ⟨rfl, _, Eq.trans (World.drewN_drewN _ _ _) (congrArg (World.drewN _) (Nat.add_assoc _ _ _))⟩))); try go_wp2_with (first | (go_at_call 128; (with_reducible refine (spec_Less.calls ((rd_T99 l0 a).f1) ((rd_T99 p a).f1) I _ ga.out).mono ?_); rintro e w' ⟨rfl, ⟨nd, rfl⟩⟩; (try first | exact ⟨rfl, _, World.drewN_drewN _ _ _⟩ | exact ⟨rfl, _, Eq.trans (World.drewN_drewN _ _ _) (congrArg (World.drewN _) (Nat.add_assoc _ _ _))⟩))))
       go_ret
       exact ⟨by first | rfl | (simp; done) | (simp [*]; done), by repeat (first | exact Drawn0.refl _ | apply Drawn0.step)⟩
      have Aa : (((rd_T99 l0 a).f0).toList == ((rd_T99 p a).f0).toList) = false := beq_eq_false_iff_ne.mpr c9
      have Ba : (((rd_T99 l0 a).f0).toList != ((rd_T99 p a).f0).toList) = true := bne_iff_ne.mpr c9
      replace H := bi_ H; obtain ⟨N, ja, H⟩ := H
      obtain rfl := Option.some.inj H
      obtain ⟨b, c⟩ : 0 ≤ (a : Int) ∧ a < (l0.length : Int) := pq_
      obtain ⟨i, q, t, u⟩ := at_T99 B.out a b c
      cases q
      replace b := eq_true b; replace c := eq_true c
      obtain ⟨d, g⟩ : 0 ≤ (a : Int) ∧ a < (p.length : Int) := pq_
      obtain ⟨j, s, v, x⟩ := at_T99 D.out a d g
      cases s
      replace d := eq_true d; replace g := eq_true g
      obtain ⟨O, P⟩ : 0 ≤ (a : Int) ∧ a < (l0.length : Int) := pq_
      obtain ⟨aa, ka, ra, sa⟩ := at_T99 B.out a O P
      obtain rfl : i = aa := (by injection ka)
      replace O := eq_true O; replace P := eq_true P
      obtain ⟨Q, R⟩ : 0 ≤ (a : Int) ∧ a < (p.length : Int) := pq_
      obtain ⟨ba, la, ta, ua⟩ := at_T99 D.out a Q R
      obtain rfl : j = ba := (by injection la)
      replace Q := eq_true Q; replace R := eq_true R
      go_wp2_with (first | (go_at_call 128; (with_reducible refine (spec_Less.calls ((rd_T99 l0 a).f0) ((rd_T99 p a).f0) N _ ja.out).mono ?_); rintro e w' ⟨rfl, ⟨nd, rfl⟩⟩; (try first | exact ⟨rfl, _, World.drewN_drewN _ _ _⟩ | exact ⟨rfl, _, Eq.trans (World.drewN_drewN _ _ _) (congrArg (World.drewN _) (Nat.add_assoc _ _ _))⟩)))
      repeat (go_quiet (first | (go_at_call 128; (with_reducible refine (spec_Less.calls ((rd_T99 l0 a).f0) ((rd_T99 p a).f0) N _ ja.out).mono ?_); rintro e w' ⟨rfl, ⟨nd, rfl⟩⟩; (try first | exact ⟨rfl, _, World.drewN_drewN _ _ _⟩ | exact ⟨rfl, _, Eq.trans (World.drewN_drewN _ _ _) (congrArg (World.drewN _) (Nat.add_assoc _ _ _))⟩))); try go_wp2_with (first | (go_at_call 128; (with_reducible refine (spec_Less.calls ((rd_T99 l0 a).f0) ((rd_T99 p a).f0) N _ ja.out).mono ?_); rintro e w' ⟨rfl, ⟨nd, rfl⟩⟩; (try first | exact ⟨rfl, _, World.drewN_drewN _ _ _⟩ | exact ⟨rfl, _, Eq.trans (World.drewN_drewN _ _ _) (congrArg (World.drewN _) (Nat.add_assoc _ _ _))⟩))))
      go_ret
      exact ⟨by first | rfl | (simp; done) | (simp [*]; done), by repeat (first | exact Drawn0.refl _ | apply Drawn0.step)⟩
     obtain rfl := Option.some.inj H
     go_wp2
     repeat (go_quiet (fail); try go_wp2)
     go_ret
     exact ⟨by first | rfl | (simp; done) | (simp [*]; done), by repeat (first | exact Drawn0.refl _ | apply Drawn0.step)⟩
mutual
def spec_l8Sort.l0 : Nat → List (S29) → List (S29) → Int → Option ((List (S29)))
 | 0, _, _, _ => none
 | k + 1, x0, x3, x4 => if x4 < (x0.length : Int) then (if 0 ≤ x4 then ((spec_l4Copy.f ((rd_T29 x0 x4).f0) ((rd_T29 x0 x4).f1) ((rd_T29 x0 x4).f2) ((rd_T29 x0 x4).f3)).bind fun bt1255 => (spec_l8Sort.l1 k x0 x3 x4 (x3.length : Int) bt1255.1 bt1255.2.1 bt1255.2.2.1 bt1255.2.2.2)) else (none)) else (some x3)
def spec_l8Sort.l1 : Nat → List (S29) → List (S29) → Int → Int → List (S99) → Int → Int → ByteArray → Option ((List (S29)))
 | 0, _, _, _, _, _, _, _, _ => none
 | k + 1, x0, x3, x4, x6, x1262000, x1262001, x1262002, x1262003 => if x6 > 0 then (if 0 ≤ (wrap64 (x6 - 1)) then (if (wrap64 (x6 - 1)) < (x3.length : Int) then ((spec_SetLess.f k x1262000 ((rd_T29 x3 (wrap64 (x6 - 1))).f0)).bind fun t1263 => (spec_l8Sort.j2 k x0 x3 x4 x6 t1263 x1262000 x1262001 x1262002 x1262003)) else (none)) else (none)) else (spec_l8Sort.j2 k x0 x3 x4 x6 false x1262000 x1262001 x1262002 x1262003)
def spec_l8Sort.j2 : Nat → List (S29) → List (S29) → Int → Int → Bool → List (S99) → Int → Int → ByteArray → Option ((List (S29)))
 | 0, _, _, _, _, _, _, _, _, _ => none
 | k + 1, x0, x3, x4, x6, x33, x1262000, x1262001, x1262002, x1262003 => if x33 = true then (spec_l8Sort.l1 k x0 x3 x4 (wrap64 (x6 - 1)) x1262000 x1262001 x1262002 x1262003) else ((some (([] : List (S29)) : List (S29))).bind fun y1264 => (if 0 ≤ x6 then (if x6 ≤ (x3.length : Int) then ((some (x3.drop (x6 : Int).toNat : List (S29))).bind fun y1270 => ((some (x3.take (x6 : Int).toNat : List (S29))).bind fun y1267 => (if y1264.length + y1267.length < 2513169434916 then ((some (y1264 ++ y1267 : List (S29))).bind fun y1274 => (if y1274.length < 2513169434916 then ((some (y1274 ++ [(⟨x1262000, x1262001, x1262002, x1262003⟩ : S29)] : List (S29))).bind fun y1278 => (if y1278.length + y1270.length < 2513169434916 then (spec_l8Sort.l0 k x0 (y1278 ++ y1270) (wrap64 (x4 + 1))) else (none))) else (none))) else (none)))) else (none)) else (none)))
end
def spec_l8Sort.f (k : Nat) (l0 : List (S29)) : Option ((List (S29))) := spec_l8Sort.l0 k l0 (([] : List (S29))) 0
def spec_l8Sort.T7 : Bool × List (List Nat × List Nat) := (true, [([], []), ([0], [0]), ([1], [1]), ([2], [2]), ([3, 2], [2, 3]), ([2], [2]), ([2], [2]), ([6, 2], [2, 6]), ([5, 7, 2], [2, 5, 7]), ([8, 2], [2, 8]), ([9, 2], [2, 9]), ([4, 10, 2, 2], [2, 4, 10]), ([2, 11], [2, 11])])
def spec_l8Sort.B7 : List Nat := [0, 1, 3, 7, 15, 7, 7, 71, 231, 487, 999, 2047, 4095]
theorem spec_l8Sort.tab7 : rtab .any (opsOf Tryz.f89 7) = spec_l8Sort.T7 := by kernel_rfl
theorem spec_l8Sort.bits7 : waitsOk spec_l8Sort.T7.2 spec_l8Sort.B7 = true := by kernel_rfl
def spec_l8Sort.T9 : Bool × List (List Nat × List Nat) := (true, [([], []), ([], []), ([], []), ([1, 2], [1, 2]), ([0, 3], [0, 3]), ([], []), ([5], [5]), ([4, 6, 4], [4, 6]), ([], []), ([], []), ([8, 9], [8, 9]), ([7, 10, 7], [7, 10]), ([11, 11, 0, 1, 2, 3, 4, 5, 6, 7, 8, 9, 10, 11], [1, 8, 11])])
def spec_l8Sort.B9 : List Nat := [0, 0, 0, 6, 15, 0, 32, 127, 0, 0, 768, 2047, 4095]
theorem spec_l8Sort.tab9 : rtab .any (opsOf Tryz.f89 9) = spec_l8Sort.T9 := by kernel_rfl
theorem spec_l8Sort.bits9 : waitsOk spec_l8Sort.T9.2 spec_l8Sort.B9 = true := by kernel_rfl
theorem spec_l8Sort.calls (k : Nat) (A0 : Option Addr) (c0 : Nat) (l0 : List (S29)) (r : List (S29)) (w : World) (Db : Kd.C k29 w A0 l0.length l0) (Eb : l0.length ≤ c0) (h : spec_l8Sort.f k l0 = some r) :
  Calls Tryz.prog 89 #[.slice A0 l0.length c0] w fun e w' => ∃ v0_ : Value, e = .returned (v0_) ∧ Kd.S k29 29 w' w.heap.size (fun _ => True) v0_ r ∧ Below w.heap.size w w' := by
 have hu29 := Tryz.underlying29
 have Yb := Aside0.mk Db
 have Bc := Aside0.mk Eb
 clear Db Eb
 have U := Aside0.mk (Below.refl w.heap.size w)
 have H : (spec_l8Sort.l0 k l0 (([] : List (S29))) 0) = some r := h
 clear h
 obtain ⟨cb, hy_⟩ : ∃ y_ : List (S29), y_ = (([] : List (S29))) := ⟨_, rfl⟩
 replace H : (spec_l8Sort.l0 k l0 cb 0) = some r := hm_
 have Ta := Aside0.mk hy_; clear hy_
 have H' := Aside0.mk H
 clear H
 go_enter Tryz.func89, Tryz.ntmps89
 go_wp2_with (first | ((with_reducible refine gd_ 7 rfl ?_); refine Kd.S_lit k29 _ 29 ?hg (N := 7) ?hd (xs := ([] : List (S29))) (inner := []) (ok := fun _ => True) (okp := fun _ => True) ?hr ?hp (fun _ hk => hk) trivial (Below.refl _ _) (Nat.le_refl _) (by simp) ?_; (case hd => rfl); (case hg => rfl); (case hr => first | (go_simp; done) | (go_simp; rfl)); (case hp => exact (Reps.none _ _)); intro Zb w2 db hb hg_ hnew_; clear hg_ hnew_; (first | rw [← Ta.out] at db | (simp only [Int.reduceToNat] at db; rw [← Ta.out] at db)); have pb := sw_ db U; have Fb := st_ U hb; clear U; have U := Fb; clear Fb; clear hb db))
 go_loopg [3, 4] k (fun kq v3 v4 w' => ∃ (p : List (S29)) (J : Int), v4 = .int .i64 J ∧ Aside0 (spec_l8Sort.l0 kq l0 p J = some r) ∧ Aside0 (kq ≤ k) ∧ Aside0 (Kd.S k29 29 w' w.heap.size (fun _ => True) v3 p) ∧ Aside0 (Below w.heap.size w w'))
 case atStart => exact ⟨(cb), (0), rs_, H', ⟨Nat.le_refl _⟩, ⟨sp_ pb.out⟩, ⟨hs_ U.out⟩⟩
 case round =>
  clear H'
  obtain ⟨p, J, rfl, HA, Wa, l, U⟩ := hrel
  cases gk with
  | zero => exact absurd HA.out (by simp [spec_l8Sort.l0])
  | succ k1 =>
   have H := HA.out
   clear HA
   simp only [spec_l8Sort.l0] at H
   replace H := ie_ H; rcases H with ⟨c4, H⟩ | ⟨c4, H⟩
   ·
    have Hb := decide_eq_true c4
    clear c4
    replace H := id_ H; obtain ⟨Ac, H⟩ := H
    replace H := bi_ H; obtain ⟨⟨d, q, s, u⟩, A6, H⟩ := H; (try dsimp only at H)
    have H' := Aside0.mk H
    clear H
    obtain ⟨Pa, Qa⟩ : 0 ≤ (J : Int) ∧ J < (l0.length : Int) := pq_
    obtain ⟨Tb, fb, gb, ub, ea, ia, ja, ka, xa, ya⟩ := at_T29 Yb.out J Pa Qa
    cases ub
    replace ea := c4_ U ea ia ja ka; clear ia ja ka; obtain ⟨ea, ia, ja, ka⟩ := ea
    have Xa := Aside0.mk ya
    have Ya := Aside0.mk xa
    clear ya xa
    replace Pa := eq_true Pa; replace Qa := eq_true Qa
    go_wp2_with (first | ((with_reducible refine gate_callee (f := 63) rfl ?_); refine gl_ (some 18) Tryz.func63 #[.agg #[.slice fb ((rd_T29 l0 J).f0).length gb, .int .i64 ((rd_T29 l0 J).f1), .int .i64 ((rd_T29 l0 J).f2), .string ((rd_T29 l0 J).f3)]] ?_; (with_reducible refine (spec_l4Copy.calls _ _ ((rd_T29 l0 J).f0) ((rd_T29 l0 J).f1) ((rd_T29 l0 J).f2) ((rd_T29 l0 J).f3) d q s u _ ?side1 ?side2 A6.out).mono ?_); (case side1 => exact cp_ ((Kd.C_below Xa.out U.out))); (case side2 => exact Ya.out); rintro e w7 ⟨ac, rfl, vb, hb⟩; refine ⟨_, rfl, ?_⟩; obtain ⟨v, Ua⟩ := Kd.R_name vb; replace l := su_ Ua (sp_ l.out) hb; have ha := rg_ Ua vb U; replace U := st_ U hb; (try clear hb); (try clear hk); (try clear vb)) | ((with_reducible refine gd_ 5 rfl ?_); refine bv_ 5 #[.slice none 0 0, .int .i64 0, .int .i64 0, .string (⟨#[]⟩ : ByteArray)] 29 ?_; intro c hg w8 da hb; replace l := Aside0.mk (Kd.S_below (Kd.S_ltz hg (Kd.S_elderB (sp_ l.out) c (Nat.le_of_eq hg.symm))) hb); replace ha := Aside0.mk (Kd.R_below (Kd.R_ltz hg (rp_ ha.out)) hb); have a := Aside0.mk (da); have qb := gq_ hg U; replace U := st_ U hb; have Ub := Ge_.mk qb.out; clear hb da hg; obtain ⟨B, D, bc⟩ := Kd.R_slice ha.out; subst bc; obtain ⟨cc, dc, ec, fc, gc, hc, ic, jc⟩ := bc4_ a.out; obtain ⟨z, F, Ib⟩ := Kd.S_slice l.out; subst Ib))
    go_loopg [6] k1 (fun kq v6 w' => ∃ (G : Int), v6 = .int .i64 G ∧ Aside0 (spec_l8Sort.l1 kq l0 p J G d q s u = some r) ∧ Aside0 (kq ≤ k1) ∧ Aside0 (Kd.S k29 29 w' w.heap.size (fun k_ => some k_ ≠ ((.slice B d.length D) : Value).ownBlock ∧ k_ ≠ c ∧ k_ < v ∧ k_ < c) (.slice z p.length F) p) ∧ Aside0 (Kd.R k99 99 w' w.heap.size (fun k_ => v ≤ k_ ∧ k_ < c) (.slice B d.length D) d) ∧ Aside0 (w'.heap[c]? = some (.cells #[(.slice B d.length D), .int .i64 q, .int .i64 s, .string u] 29 (0, 0))) ∧ Aside0 (Below w.heap.size w w'))
    case atStart => exact ⟨((p.length : Int)), rs_, H', ⟨Nat.le_refl _⟩, ⟨Kd.S_mono (sf_ c (Kd.S_times l.out ha.out.1 (fun k_ hk hz_ => Nat.lt_irrefl _ (Nat.lt_of_lt_of_le hk.1.1.2 hz_.1.2))) (fun _ hk => hk.1.1.2)) (fun _ hk => ⟨hk.2, ⟨hk.1.1.2, ⟨hk.1.1.1.2, hk.1.2⟩⟩⟩)⟩, ⟨Kd.R_mono (ry_ ha.out a.out) (fun _ hk => ⟨hk.1.2, hk.2⟩)⟩, ⟨bp_ a.out⟩, ⟨hs_ U.out⟩⟩
    case round =>
     clear H'
     obtain ⟨G, rfl, HA, Za, l, b, a, U⟩ := hrel
     cases gk with
     | zero => exact absurd HA.out (by simp [spec_l8Sort.l1])
     | succ k2 =>
      have H := HA.out
      clear HA
      simp only [spec_l8Sort.l1] at H
      have ib := Aside0.mk H
      clear H
      go_upto_region 7 with (fail)
      go_cut [33] (fun kc wc => ∃ (kq : Nat) (Ea : Bool), kc = .bool Ea ∧ Aside0 (spec_l8Sort.j2 kq l0 p J G Ea d q s u = some r) ∧ Aside0 (kq ≤ k2) ∧ Aside0 (Kd.S k29 29 wc w.heap.size (fun k_ => some k_ ≠ ((.slice B d.length D) : Value).ownBlock ∧ k_ ≠ c ∧ k_ < v ∧ k_ < c) (.slice z p.length F) p) ∧ Aside0 (Kd.R k99 99 wc w.heap.size (fun k_ => v ≤ k_ ∧ k_ < c) (.slice B d.length D) d) ∧ Aside0 (wc.heap[c]? = some (.cells #[(.slice B d.length D), .int .i64 q, .int .i64 s, .string u] 29 (0, 0))) ∧ Aside0 (Below w.heap.size w wc))
      case first =>
       have H := ib.out
       clear ib
       replace H := ie_ H; rcases H with ⟨jb, H⟩ | ⟨jb, H⟩
       ·
        have sa : decide (0 < G) = true := decide_eq_true jb
        clear jb
        (first | rw [sa] | (simp only [i64_w, i32_w]; rw [sa]) | skip)
        obtain ⟨V, Fa⟩ : ∃ j_ : Int, (wrap64 (G - 1)) = j_ := ⟨_, rfl⟩
        replace H : (if 0 ≤ (V) then (if (V) < (p.length : Int) then ((spec_SetLess.f k2 d ((rd_T29 p (V)).f0)).bind fun Ga => (spec_l8Sort.j2 k2 l0 p J G Ga d q s u)) else (none)) else (none)) = some r := by first | (rw [Fa] at H; exact H) | (simp only [Fa] at H ⊢; exact H)
        have Wb : (IntKind.i64.wrap (G - 1)) = V := (i64_w _).trans Fa
        replace H := id_ H; obtain ⟨lc, H⟩ := H
        replace H := id_ H; obtain ⟨mc, H⟩ := H
        replace H := bi_ H; obtain ⟨Ga, nc, H⟩ := H
        have H' := Aside0.mk H
        clear H
        try go_wp2
        replace l := Aside0.mk (Kd.S_drew l.out)
        replace b := Aside0.mk (Kd.R_drew b.out)
        replace a := Aside0.mk (blk_drew a.out)
        replace U := Aside0.mk (bd_ U.out)
        obtain ⟨Ha, Ia⟩ : 0 ≤ ((V) : Int) ∧ (V) < (p.length : Int) := pq_
        obtain ⟨ca, La, Ma, wb, la, za, Aa, Ba, Ca, Da⟩ := at_T29 (Kd.S_reads' l.out).2.2 (V) Ha Ia
        cases wb
        obtain ⟨Xb, kb, lb, Na⟩ := Kd.S_get l.out z29 (V) Ha (by first | exact Ia | exact of_decide_eq_true (by with_reducible assumption) | (have e_ := (Kd.S_reads' l.out).1; omega))
        obtain ⟨Cb, rfl, ma⟩ := k29_openM lb
        have ba := Na 0 _ rfl
        rw [Nat.add_zero] at ba
        replace ba := Option.some.inj (ba.symm.trans la)
        rw [ba] at ma
        have ab := Aside0.mk (show Kd.R k99 99 _ _ _ _ ((rd_T29 p (V)).f0) from ma)
        clear ba ma Na kb
        have na := Aside0.mk Da
        have bb := Aside0.mk Ca
        clear Da Ca
        replace Ha := eq_true Ha; replace Ia := eq_true Ia
        refine start_ (n := 13) (S := fun w' => w'.cell? ⟨c, 0, none⟩ = some (.slice B d.length D) ∧ w'.cell? ⟨c, 1, none⟩ = some (.int .i64 q) ∧ w'.cell? ⟨c, 2, none⟩ = some (.int .i64 s) ∧ w'.cell? ⟨c, 3, none⟩ = some (.string u) ∧ w'.cell? (ca.add (((V)).toNat * 4)) = some (.slice La ((rd_T29 p (V)).f0).length Ma) ∧ w'.cell? ⟨(ca.add (((V)).toNat * 4)).block, (ca.add (((V)).toNat * 4)).off + 1, none⟩ = some (.int .i64 ((rd_T29 p (V)).f1)) ∧ w'.cell? ⟨(ca.add (((V)).toNat * 4)).block, (ca.add (((V)).toNat * 4)).off + 2, none⟩ = some (.int .i64 ((rd_T29 p (V)).f2)) ∧ w'.cell? ⟨(ca.add (((V)).toNat * 4)).block, (ca.add (((V)).toNat * 4)).off + 3, none⟩ = some (.string ((rd_T29 p (V)).f3))) (ds := []) (b_ 0 13) (by kernel_rfl) rfl rfl ⟨bx_ a.out 0, bx_ a.out 1, bx_ a.out 2, bx_ a.out 3, la, za, Aa, Ba⟩ (fun y => ?_); refine with_tabW spec_l8Sort.tab7 spec_l8Sort.bits7 (fun O mb => ?_)
        generalize wr.drew = Gc at l b a U ab na la za Aa Ba y ⊢
        iterate 4 refine p_ O ?_
        refine qw_ 5 (m_ 13 47) O ?_
        refine qw_ 6 (m_ 13 111) O ?_
        refine qw_ 7 (m_ 13 239) O ?_
        refine qw_ 8 (m_ 13 495) O ?_
        refine qw_ 9 (m_ 13 1007) O ?_
        refine qt_ 4 (b_ 10 3) O mb y ?_
        refine t0_ O mb y ?_
        refine o1_ 11 (b_ 12 1) O (fun K hK => ?_)
        refine goes_ Tryz.func113 (by kernel_rfl) rfl #[.slice B d.length D, .slice La ((rd_T29 p (V)).f0).length Ma] (by rfl) rfl rfl (by (try simp only [mp_]); first | done | (simp only [Fa]; rfl) | rfl | (simp only [List.length_drop, List.length_take]; rfl)) ?_
        with_reducible refine (spec_SetLess.calls k2 _ _ d _ _ ((rd_T29 p (V)).f0) Ga _ ?side1 ?side2 ?side3 ?side4 nc.out).mono ?_
        (case side1 => exact cp_ ((Kd.R_reads' b.out).2.2))
        (case side2 => exact (Kd.R_reads' b.out).2.1)
        (case side3 => repeat (first | exact (by repeat (first | (with_reducible exact na.out) | (with_reducible first | refine ca_ ?_ _ | refine cn_ ?_ _ | refine cd_ ?_) | exact na.out)) | (with_reducible first | refine ca_ ?_ _ | refine cn_ ?_ _ | refine cd_ ?_)))
        (case side4 => exact bb.out)
        rintro e w' ⟨rfl, ⟨nd, rfl⟩⟩
        refine ⟨_, rfl, ?_⟩
        refine ho_ hK ⟨bx_ a.out 0, bx_ a.out 1, bx_ a.out 2, bx_ a.out 3, y.2.2.2.2.1, y.2.2.2.2.2.1, y.2.2.2.2.2.2.1, y.2.2.2.2.2.2.2⟩ (fun y => ?_)
        refine p_ O ?_
        refine done_ (done_of O.out (by kernel_rfl)) ?_
        try go_wp2
        go_meet
        case rel => exact ⟨_, (Ga), rs_, H', ⟨by have := Wa.out; have := Za.out; first | omega | exact Nat.le_refl _⟩, ⟨sp_ l.out⟩, ⟨rp_ b.out⟩, ⟨bq_ a.out⟩, ⟨hs_ U.out⟩⟩
       have sa : decide (0 < G) = false := decide_eq_false jb
       clear jb
       (first | rw [sa] | (simp only [i64_w, i32_w]; rw [sa]) | skip)
       have H' := Aside0.mk H
       clear H
       try go_wp2
       replace l := Aside0.mk (Kd.S_drew l.out)
       replace b := Aside0.mk (Kd.R_drew b.out)
       replace a := Aside0.mk (blk_drew a.out)
       replace U := Aside0.mk (bd_ U.out)
       refine start_ (n := 13) (S := fun w' => True) (ds := []) (b_ 0 13) (by kernel_rfl) rfl rfl trivial (fun y => ?_); refine with_tabW spec_l8Sort.tab7 spec_l8Sort.bits7 (fun O mb => ?_)
       generalize wr.drew = Hc at l b a U y ⊢
       iterate 3 refine p_ O ?_
       iterate 9 refine v_ O ?_
       refine p_ O ?_
       refine done_ (done_of O.out (by kernel_rfl)) ?_
       try go_wp2
       go_meet
       case rel => exact ⟨_, (false), rs_, H', ⟨by have := Wa.out; have := Za.out; first | omega | exact Nat.le_refl _⟩, ⟨sp_ l.out⟩, ⟨rp_ b.out⟩, ⟨bq_ a.out⟩, ⟨hs_ U.out⟩⟩
      case rest =>
       clear ib
       obtain ⟨kq, Ea, rfl, HA, HJ11, l, b, a, U⟩ := hcut
       cases kq with
       | zero => exact absurd HA.out (by simp [spec_l8Sort.j2])
       | succ oa =>
        have H := HA.out
        clear HA
        simp only [spec_l8Sort.j2] at H
        replace H := ib_ H; rcases H with ⟨rfl, H⟩ | ⟨rfl, H⟩
        ·
         have H' := Aside0.mk H
         clear H
         go_wp2
         go_roundg oa
         case measure => have := Wa.out; have := Za.out; have := HJ11.out; omega
         case rel => exact ⟨(wrap64 (G - 1)), rs_, H', ⟨by have := Wa.out; have := Za.out; have := HJ11.out; omega⟩, ⟨sp_ l.out⟩, ⟨rp_ b.out⟩, ⟨bq_ a.out⟩, ⟨hs_ U.out⟩⟩
        obtain ⟨aa, hy_⟩ : ∃ y_ : List (S29), y_ = (([] : List (S29))) := ⟨_, rfl⟩
        replace H : (if 0 ≤ G then (if G ≤ (p.length : Int) then ((some (p.drop (G : Int).toNat : List (S29))).bind fun Y => ((some (p.take (G : Int).toNat : List (S29))).bind fun E => (if aa.length + E.length < 2513169434916 then ((some (aa ++ E : List (S29))).bind fun X => (if X.length < 2513169434916 then ((some (X ++ [(⟨d, q, s, u⟩ : S29)] : List (S29))).bind fun W => (if W.length + Y.length < 2513169434916 then (spec_l8Sort.l0 oa l0 (W ++ Y) (wrap64 (J + 1))) else (none))) else (none))) else (none)))) else (none)) else (none)) = some r := hm_
        have pa := Aside0.mk hy_; clear hy_
        replace H := in_ H; obtain ⟨xb, H⟩ := H
        have oc := eq_true xb
        have pc := decide_eq_true xb
        clear xb
        replace H := in_ H; obtain ⟨yb, H⟩ := H
        have qc := eq_true yb
        have rc := decide_eq_true yb
        clear yb
        obtain ⟨Y, hy_⟩ : ∃ y_ : List (S29), y_ = (p.drop (G : Int).toNat) := ⟨_, rfl⟩
        replace H : ((some (p.take (G : Int).toNat : List (S29))).bind fun E => (if aa.length + E.length < 2513169434916 then ((some (aa ++ E : List (S29))).bind fun X => (if X.length < 2513169434916 then ((some (X ++ [(⟨d, q, s, u⟩ : S29)] : List (S29))).bind fun W => (if W.length + Y.length < 2513169434916 then (spec_l8Sort.l0 oa l0 (W ++ Y) (wrap64 (J + 1))) else (none))) else (none))) else (none))) = some r := hm_
        have qa := Aside0.mk hy_; clear hy_
        obtain ⟨E, hy_⟩ : ∃ y_ : List (S29), y_ = (p.take (G : Int).toNat) := ⟨_, rfl⟩
        replace H : (if aa.length + E.length < 2513169434916 then ((some (aa ++ E : List (S29))).bind fun X => (if X.length < 2513169434916 then ((some (X ++ [(⟨d, q, s, u⟩ : S29)] : List (S29))).bind fun W => (if W.length + Y.length < 2513169434916 then (spec_l8Sort.l0 oa l0 (W ++ Y) (wrap64 (J + 1))) else (none))) else (none))) else (none)) = some r := hm_
        have Va := Aside0.mk hy_; clear hy_
        replace H := im_ H; obtain ⟨Ra, H⟩ := H
        obtain ⟨X, hy_⟩ : ∃ y_ : List (S29), y_ = (aa ++ E) := ⟨_, rfl⟩
        replace H : (if X.length < 2513169434916 then ((some (X ++ [(⟨d, q, s, u⟩ : S29)] : List (S29))).bind fun W => (if W.length + Y.length < 2513169434916 then (spec_l8Sort.l0 oa l0 (W ++ Y) (wrap64 (J + 1))) else (none))) else (none)) = some r := hm_
        have Ja := Aside0.mk hy_; clear hy_
        replace H := im_ H; obtain ⟨zb, H⟩ := H
        obtain ⟨W, hy_⟩ : ∃ y_ : List (S29), y_ = (X ++ [(⟨d, q, s, u⟩ : S29)]) := ⟨_, rfl⟩
        replace H : (if W.length + Y.length < 2513169434916 then (spec_l8Sort.l0 oa l0 (W ++ Y) (wrap64 (J + 1))) else (none)) = some r := hm_
        have rb := Aside0.mk hy_; clear hy_
        replace H := im_ H; obtain ⟨Ab, H⟩ := H
        obtain ⟨nb, hy_⟩ : ∃ y_ : List (S29), y_ = (W ++ Y) := ⟨_, rfl⟩
        replace H : (spec_l8Sort.l0 oa l0 nb (wrap64 (J + 1))) = some r := hm_
        have sb := Aside0.mk hy_; clear hy_
        have H' := Aside0.mk H
        clear H
        try go_wp2
        have qp26 : (G : Int) ≤ ((p.length : Int) : Int) := of_decide_eq_true (by with_reducible assumption)
        have Bb : (0 : Int) ≤ (G : Int) := of_decide_eq_true (by with_reducible assumption)
        have hlxp26 := (Kd.S_reads' l.out).1
        obtain ⟨i0p26, Ka, _, hszp26, _⟩ := info_parts info29
        have hcutp26 := cut_to (P := Tryz.prog) 40 29 .i64 Tryz.underlying40 Ka z p.length F G (of_decide_eq_true (by with_reducible assumption)) qp26 (Kd.S_reads' l.out).2.1
        have hcutbp26 := cut_from (P := Tryz.prog) 40 29 .i64 Tryz.underlying40 Ka 4 hszp26 z p.length F G Bb qp26
        have KLp26 := Aside0.mk (show (G : Int).toNat ≤ p.length from by omega)
        obtain ⟨GXp26, hsrp26, hspp26, hglp26⟩ := Kd.S_split l.out ((G : Int).toNat) KLp26.out
        have HGp26 := Aside0.mk (show ∀ k_, GXp26 k_ → k_ < c from fun k_ hk => (hglp26 k_ hk).2.2.2)
        have hyp26 : E.length = (G : Int).toNat := (by rw [Va.out, List.length_take]; omega)
        rw [← Va.out] at hspp26
        rw [← hyp26] at hspp26 hcutp26
        obtain ⟨Ap26b, hAbp26⟩ : ∃ A1, A1 = (if F = (G : Int).toNat then z else (z : Option Addr).map (·.add ((G : Int).toNat * 4))) := ⟨_, rfl⟩
        obtain ⟨cp26b, hcbp26⟩ : ∃ c1, c1 = F - (G : Int).toNat := ⟨_, rfl⟩
        have hybp26 : Y.length = p.length - (G : Int).toNat := (by rw [qa.out, List.length_drop])
        rw [← hybp26, ← hAbp26, ← hcbp26] at hcutbp26
        have KAp26 := Aside0.mk hAbp26
        clear hcbp26 hAbp26 hybp26 hlxp26
        obtain ⟨GXp26P, hPPp26, hlPp26⟩ := Kd.S_fp hspp26
        have HGp26P := Aside0.mk (show ∀ k_, GXp26P k_ → k_ < c from fun k_ hk => (hlPp26 k_ hk).1.1.2.2.2)
        obtain ⟨GXp26u0, hPXp26u0, hPlp26u0⟩ := Kd.R_fpt rfl (b.out)
        have HGp26u0 := Aside0.mk (show ∀ k_, GXp26u0 k_ → k_ < c from fun k_ hk_ => (hPlp26u0 k_ hk_).1.1.2)
        have nup26u0 := Aside0.mk (Kd.R_mono hPXp26u0 (fun k_ hk_ => (⟨⟨(hPlp26u0 k_ hk_).1.1, hk_⟩, fun g_ => Nat.lt_irrefl _ (Nat.lt_of_lt_of_le (hglp26 k_ g_).2.2.1 (hPlp26u0 k_ hk_).1.1.1)⟩ : (_ ∧ GXp26u0 k_) ∧ ¬ GXp26 k_)))
        have A := Aside0.mk (Kd.S_mono (Kd.S_mono hPPp26 (fun k_ hk_ => (⟨(hlPp26 k_ hk_).1, hk_⟩ : _ ∧ GXp26P k_))) (fun k_ hk => (⟨hk, fun g_ => Nat.lt_irrefl _ (Nat.lt_of_lt_of_le hk.1.1.2.2.1 (hPlp26u0 k_ g_).1.1.1)⟩ : _ ∧ ¬ GXp26u0 k_)))
        clear l
        have l := Aside0.mk hsrp26
        clear b
        have b := nup26u0
        clear nup26u0 hPXp26u0 hPlp26u0 hsrp26 hspp26 hglp26 hPPp26 hlPp26 hyp26 Ka hszp26
        replace qp26 := eq_true qp26
        replace l := Aside0.mk (Kd.S_drew l.out)
        replace b := Aside0.mk (Kd.R_drew b.out)
        replace A := Aside0.mk (Kd.S_drew A.out)
        replace a := Aside0.mk (blk_drew a.out)
        replace U := Aside0.mk (bd_ U.out)
        refine start_ (n := 13) (S := fun w' => w'.cell? ⟨c, 0, none⟩ = some (.slice B d.length D) ∧ w'.cell? ⟨c, 1, none⟩ = some (.int .i64 q) ∧ w'.cell? ⟨c, 2, none⟩ = some (.int .i64 s) ∧ w'.cell? ⟨c, 3, none⟩ = some (.string u)) (ds := []) (b_ 0 13) (by kernel_rfl) rfl rfl ⟨bx_ a.out 0, bx_ a.out 1, bx_ a.out 2, bx_ a.out 3⟩ (fun y => ?_); refine with_tabW spec_l8Sort.tab9 spec_l8Sort.bits9 (fun O mb => ?_)
        generalize wc.drew = Kc at l b A a U y ⊢
        refine qw_ 1 (m_ 13 2) O ?_
        refine qw_ 2 (m_ 13 6) O ?_
        refine qw_ 3 (m_ 13 14) O ?_
        refine qw_ 8 (m_ 13 270) O ?_
        refine qw_ 9 (m_ 13 782) O ?_
        refine qw_ 10 (m_ 13 1806) O ?_
        refine qt_ 5 (m_ 13 1838) O mb y ?_
        refine join_ (σ := Value × Value × Nat) 3 (m_ 13 1919) (fun s_ => [(36, s_.1), (40, s_.2.1), (42, .slice (some ⟨s_.2.2, 0, none⟩) 1 1)]) (fun s_ w' => (w'.cell? ⟨c, 0, none⟩ = some (.slice B d.length D) ∧ w'.cell? ⟨c, 1, none⟩ = some (.int .i64 q) ∧ w'.cell? ⟨c, 2, none⟩ = some (.int .i64 s) ∧ w'.cell? ⟨c, 3, none⟩ = some (.string u)) ∧ (Kd.S k29 29 w' w.heap.size (fun k_ => some k_ ≠ (.slice B d.length D : Value).ownBlock ∧ some k_ ≠ (.slice z p.length F : Value).ownBlock ∧ k_ ≠ c ∧ k_ ≠ s_.2.2 ∧ ¬ GXp26 k_ ∧ ¬ GXp26u0 k_) s_.2.1 X) ∧ (Kd.R k99 99 w' w.heap.size (fun k_ => v ≤ k_ ∧ GXp26u0 k_ ∧ k_ < c ∧ ¬ GXp26 k_) (.slice B d.length D) d) ∧ (Kd.S (Kd.opt k29) 29 w' w.heap.size (fun k_ => some k_ ≠ (s_.2.1 : Value).ownBlock ∧ some k_ ≠ (.slice B d.length D : Value).ownBlock ∧ k_ ≠ c ∧ k_ ≠ s_.2.2 ∧ GXp26 k_ ∧ k_ < c ∧ k_ < v) (.slice z p.length F) (Kd.gap ((G : Int).toNat) p)) ∧ (w'.heap[c]? = some (.cells #[.slice B d.length D, .int .i64 q, .int .i64 s, .string u] 29 (0, 0))) ∧ (w'.heap[s_.2.2]? = some (.cells #[.slice B d.length D, .int .i64 q, .int .i64 s, .string u] 29 (0, 0))) ∧ (w.heap.size ≤ s_.2.2) ∧ (w.heap.size ≤ s_.2.2) ∧ (c ≠ s_.2.2) ∧ (s_.2.2 ≠ c) ∧ (Below w.heap.size w w')) ?_ ?_
        rotate_left
        ·
         intro Sa
         refine two_ (i := 0) (j := 6) (Ni := some 36) (Nj := some 42) (m_ 13 1839) (m_ 13 1902) rfl rfl rfl rfl (two_of O.out (by kernel_rfl)) (by decide) (by decide) (fun K hK => ?_) (fun K hK => ?_)
         ·
          skip
          refine Kd.S_lit_step k29 _ 29 ?hg (N := 36) ?hd (xs := ([] : List (S29))) (inner := []) (ok := fun _ => True) (okp := fun _ => True) ?hr ?hp (fun _ hk => hk) trivial (Below.refl _ _) (Nat.le_refl _) (by simp) ?_; (case hd => rfl); (case hg => rfl); (case hr => first | (go_simp; done) | (go_simp; rfl)); (case hp => exact (Reps.none _ _))
          intro M sc ta hb hg_ hnew_
          clear hg_ hnew_
          (first | rw [← pa.out] at ta | (simp only [Int.reduceToNat] at ta; rw [← pa.out] at ta))
          have I := Aside0.mk (Kd.S_lower (Kd.S_newB (Kd.S_new' (Kd.S_new' (Kd.S_new' (Kd.S_ngz HGp26P.out (blk_lt (pb_ a.out)) (Kd.S_ngz HGp26u0.out (blk_lt (pb_ a.out)) (Kd.S_ngz HGp26.out (blk_lt (pb_ a.out)) ta))) (Kd.S_lt (sp_ l.out))) (Kd.R_lt (rp_ b.out))) (Kd.S_lt (sp_ A.out))) (pb_ a.out)) (below_size (hs_ U.out)))
          replace l := Aside0.mk (Kd.S_elder' (sp_ l.out) (Kd.S_base ta) hb)
          replace b := rb_ b hb
          replace A := Aside0.mk (Kd.S_elder' (sp_ A.out) (Kd.S_base ta) hb)
          replace a := bk2_ a hb
          replace U := st_ U hb
          clear hb ta
          refine ho_ hK (e4_ a.out) (fun y => ?_)
          refine two_ (i := 4) (j := 6) (Ni := some 40) (Nj := some 42) (m_ 13 1855) (m_ 13 1903) rfl rfl rfl rfl (two_of O.out (by kernel_rfl)) (by decide) (by decide) (fun K hK => ?_) (fun K hK => ?_)
          ·
           skip
           refine Kd.S_append_part_step k29 (w0 := w) w.heap.size (by rfl) (.tmp 36) (.tmp 39) 40 29 (.agg #[(.slice none 0 0), (.int .i64 0), (.int .i64 0), (.string ⟨#[]⟩)]) 56 rfl Tryz.underlying40 info29 rfl (by decide) (by omega) M aa E _ _ _ (fun k_ => some k_ ≠ (.slice z p.length F : Value).ownBlock ∧ some k_ ≠ (.slice B d.length D : Value).ownBlock ∧ k_ ≠ c ∧ ¬ GXp26 k_ ∧ ¬ GXp26u0 k_) (fun k_ => some k_ ≠ (.slice B d.length D : Value).ownBlock ∧ some k_ ≠ (M : Value).ownBlock ∧ k_ ≠ c ∧ k_ < v ∧ k_ < c ∧ (¬ GXp26 k_ ∨ some k_ = (.slice z E.length F : Value).ownBlock) ∧ GXp26P k_ ∧ ¬ GXp26u0 k_) rfl rfl ?aR (fun k_ hx_ ho_ => by have hz_ : ((((fun k_ => some k_ ≠ (.slice B d.length D : Value).ownBlock ∧ some k_ ≠ (M : Value).ownBlock ∧ k_ ≠ c ∧ k_ < v ∧ k_ < c ∧ (¬ GXp26 k_ ∨ some k_ = (.slice z E.length F : Value).ownBlock) ∧ GXp26P k_ ∧ ¬ GXp26u0 k_)) k_ ∧ ¬ GXp26 k_) ∧ some k_ ≠ (.slice z p.length F : Value).ownBlock) := ⟨⟨hx_, fun g_ => (hx_.2.2.2.2.2.1).elim (fun h_ => h_ g_) (fun h_ => ho_ h_)⟩, fun e_ => ho_ (e_.trans Kd.own_len)⟩; exact ⟨⟨hz_.2, ⟨hz_.1.1.1, ⟨hz_.1.1.2.2.1, ⟨hz_.1.2, hz_.1.1.2.2.2.2.2.2.2⟩⟩⟩⟩, hz_.1.1.2.1⟩) ?aF ?aO ?aB ?aS ?aL ?_
           (case aR => exact (Kd.S_mono (A.out) (fun k_ hk => ⟨hk.1.1.1.1.1, ⟨hk.2, ⟨hk.1.1.1.1.2.1, ⟨hk.1.1.1.1.2.2.1, ⟨hk.1.1.1.1.2.2.2, ⟨hk.1.1.1.2, ⟨hk.1.1.2, hk.1.2⟩⟩⟩⟩⟩⟩⟩)))
           (case aB => exact (hs_ U.out))
           (case aF => exact (fun k_ hk => ⟨Kd.fresh' (Kd.S_lt (sp_ l.out)) k_ hk, Kd.fresh' (Kd.R_lt (rp_ b.out)) k_ hk, Kd.freshB (g := c) (o := .cells #[.slice B d.length D, .int .i64 q, .int .i64 s, .string u] 29 (0, 0)) (pb_ a.out) k_ hk, (fun g_ => Nat.lt_irrefl _ (Nat.lt_of_lt_of_le (Nat.lt_trans (HGp26.out k_ g_) (blk_lt (pb_ a.out))) hk)), (fun g_ => Nat.lt_irrefl _ (Nat.lt_of_lt_of_le (Nat.lt_trans (HGp26u0.out k_ g_) (blk_lt (pb_ a.out))) hk))⟩))
           (case aO => exact (Kd.S_mono (sp_ I.out) (fun k_ hk => ⟨⟨hk.1.1.1.2, ⟨hk.1.1.2, ⟨hk.2, ⟨hk.1.1.1.1.1.1.2, hk.1.1.1.1.1.2⟩⟩⟩⟩, fun e_ => (fun ez_ => hk.1.1.1.1.2 ((fun (k9_ : Nat) (Oa : ((fun k_ => some k_ ≠ (.slice B d.length D : Value).ownBlock ∧ some k_ ≠ (M : Value).ownBlock ∧ k_ ≠ c ∧ k_ < v ∧ k_ < c ∧ (¬ GXp26 k_ ∨ some k_ = (.slice z E.length F : Value).ownBlock) ∧ GXp26P k_ ∧ ¬ GXp26u0 k_)) k9_ ∧ some k9_ ≠ (.slice z E.length F : Value).ownBlock) => (⟨Oa.1, trivial⟩ : _ ∧ True)) _ ez_).1.2.2.2.2.2.2.1) e_⟩)))
           (case aS => exact (below_size (hs_ U.out)))
           (case aL => have := Ra.out; omega)
           intro Z tc ho hb hg hat
           rw [← Ja.out] at ho
           replace l := Aside0.mk (Kd.S_after (ok := (fun k_ => some k_ ≠ (.slice B d.length D : Value).ownBlock ∧ k_ ≠ c ∧ k_ < v ∧ k_ < c ∧ GXp26 k_)) (Kd.S_mono (sp_ l.out) (fun _ hk => ⟨⟨hk.1.1.1, ⟨hk.1.1.2.1, ⟨hk.1.1.2.2.1, ⟨hk.1.1.2.2.2, hk.1.2⟩⟩⟩⟩, hk.2⟩)) hg hat)
           replace b := Aside0.mk (Kd.R_over' (rp_ b.out) (Kd.S_typed (sp_ I.out)) (by decide) hg)
           replace a := Aside0.mk (blk_grown (bq_ a.out) hg (Kd.S_away I.out (fun _ hk => hk.2)))
           replace U := Aside0.mk (hb)
           have L := Aside0.mk (ho)
           clear I A
           clear ho hb hg hat
           refine ho_ hK (e4_ a.out) (fun y => ?_)
           refine o1_ 6 (m_ 13 1919) O (fun K hK => ?_)
           refine box_stepL ?hg (N := 42) ?hd (cs := #[.slice B d.length D, .int .i64 q, .int .i64 s, .string u]) (t := 29) ?hr ?_; (case hd => rfl); (case hg => rfl); (case hr => first | (go_simp; done) | (go_simp; rfl))
           intro m hg Jb da hb
           replace l := se_ l hg hb
           replace b := rb_ b hb
           replace L := se_ L hg hb
           have x := Aside0.mk (da)
           have fa := gq_ hg U
           have ga := gq_ hg U
           replace U := st_ U hb
           have Q := nk_ a hg
           have T := Ne_.mk (ng_ a.out hg)
           replace a := bk2_ a hb
           clear hb da hg
           refine ho_ hK (e4_ a.out) (fun y => ?_)
           exact norm_ (by simp only [putAll, fr_]) (Sa (M, Z, m) _ ⟨y, (Kd.S_mono (sp_ L.out) (fun _ hk => ⟨hk.1.2.1, ⟨hk.1.1, ⟨hk.1.2.2.1, ⟨hk.2, ⟨hk.1.2.2.2.1, hk.1.2.2.2.2⟩⟩⟩⟩⟩)), (Kd.R_mono (rp_ b.out) (fun _ hk => ⟨hk.1.1.1, ⟨hk.1.2, ⟨hk.1.1.2, hk.2⟩⟩⟩)), (Kd.S_mono (sp_ l.out) (fun _ hk => ⟨hk.1.2, ⟨hk.1.1.1, ⟨hk.1.1.2.1, ⟨hk.2, ⟨hk.1.1.2.2.2.2, ⟨hk.1.1.2.2.2.1, hk.1.1.2.2.1⟩⟩⟩⟩⟩⟩)), (pb_ a.out), (pb_ x.out), fa.out, ga.out, Q.out, T.out, (hs_ U.out)⟩)
          skip
          refine box_stepL ?hg (N := 42) ?hd (cs := #[.slice B d.length D, .int .i64 q, .int .i64 s, .string u]) (t := 29) ?hr ?_; (case hd => rfl); (case hg => rfl); (case hr => first | (go_simp; done) | (go_simp; rfl))
          intro m hg tc da hb
          replace l := se_ l hg hb
          replace b := rb_ b hb
          replace A := se_ A hg hb
          replace I := se_ I hg hb
          have x := Aside0.mk (da)
          have fa := gq_ hg U
          have ga := gq_ hg U
          replace U := st_ U hb
          have Q := nk_ a hg
          have T := Ne_.mk (ng_ a.out hg)
          replace a := bk2_ a hb
          clear hb da hg
          refine ho_ hK (e4_ a.out) (fun y => ?_)
          refine o1_ 4 (m_ 13 1919) O (fun K hK => ?_)
          refine Kd.S_append_part_step k29 (w0 := w) w.heap.size (by rfl) (.tmp 36) (.tmp 39) 40 29 (.agg #[(.slice none 0 0), (.int .i64 0), (.int .i64 0), (.string ⟨#[]⟩)]) 56 rfl Tryz.underlying40 info29 rfl (by decide) (by omega) M aa E _ _ _ (fun k_ => some k_ ≠ (.slice z p.length F : Value).ownBlock ∧ some k_ ≠ (.slice B d.length D : Value).ownBlock ∧ k_ ≠ c ∧ k_ ≠ m ∧ ¬ GXp26 k_ ∧ ¬ GXp26u0 k_) (fun k_ => some k_ ≠ (.slice B d.length D : Value).ownBlock ∧ some k_ ≠ (M : Value).ownBlock ∧ k_ ≠ c ∧ k_ < v ∧ k_ < c ∧ (¬ GXp26 k_ ∨ some k_ = (.slice z E.length F : Value).ownBlock) ∧ GXp26P k_ ∧ ¬ GXp26u0 k_ ∧ k_ ≠ m) rfl rfl ?aR (fun k_ hx_ ho_ => by have hz_ : ((((fun k_ => some k_ ≠ (.slice B d.length D : Value).ownBlock ∧ some k_ ≠ (M : Value).ownBlock ∧ k_ ≠ c ∧ k_ < v ∧ k_ < c ∧ (¬ GXp26 k_ ∨ some k_ = (.slice z E.length F : Value).ownBlock) ∧ GXp26P k_ ∧ ¬ GXp26u0 k_ ∧ k_ ≠ m)) k_ ∧ ¬ GXp26 k_) ∧ some k_ ≠ (.slice z p.length F : Value).ownBlock) := ⟨⟨hx_, fun g_ => (hx_.2.2.2.2.2.1).elim (fun h_ => h_ g_) (fun h_ => ho_ h_)⟩, fun e_ => ho_ (e_.trans Kd.own_len)⟩; exact ⟨⟨hz_.2, ⟨hz_.1.1.1, ⟨hz_.1.1.2.2.1, ⟨hz_.1.1.2.2.2.2.2.2.2.2, ⟨hz_.1.2, hz_.1.1.2.2.2.2.2.2.2.1⟩⟩⟩⟩⟩, hz_.1.1.2.1⟩) ?aF ?aO ?aB ?aS ?aL ?_
          (case aR => exact (Kd.S_mono (A.out) (fun k_ hk => ⟨hk.1.1.1.1.1.1, ⟨hk.1.2, ⟨hk.1.1.1.1.1.2.1, ⟨hk.1.1.1.1.1.2.2.1, ⟨hk.1.1.1.1.1.2.2.2, ⟨hk.1.1.1.1.2, ⟨hk.1.1.1.2, ⟨hk.1.1.2, hk.2⟩⟩⟩⟩⟩⟩⟩⟩)))
          (case aB => exact (hs_ U.out))
          (case aF => exact (fun k_ hk => ⟨Kd.fresh' (Kd.S_lt (sp_ l.out)) k_ hk, Kd.fresh' (Kd.R_lt (rp_ b.out)) k_ hk, Kd.freshB (g := c) (o := .cells #[.slice B d.length D, .int .i64 q, .int .i64 s, .string u] 29 (0, 0)) (pb_ a.out) k_ hk, Kd.freshB (g := m) (o := .cells #[.slice B d.length D, .int .i64 q, .int .i64 s, .string u] 29 (0, 0)) (pb_ x.out) k_ hk, (fun g_ => Nat.lt_irrefl _ (Nat.lt_of_lt_of_le (Nat.lt_trans (HGp26.out k_ g_) (blk_lt (pb_ a.out))) hk)), (fun g_ => Nat.lt_irrefl _ (Nat.lt_of_lt_of_le (Nat.lt_trans (HGp26u0.out k_ g_) (blk_lt (pb_ a.out))) hk))⟩))
          (case aO => exact (Kd.S_mono (sp_ I.out) (fun k_ hk => ⟨⟨hk.1.1.1.1.2, ⟨hk.1.1.1.2, ⟨hk.1.2, ⟨hk.2, ⟨hk.1.1.1.1.1.1.1.2, hk.1.1.1.1.1.1.2⟩⟩⟩⟩⟩, fun e_ => (fun ez_ => hk.1.1.1.1.1.2 ((fun (k9_ : Nat) (Oa : ((fun k_ => some k_ ≠ (.slice B d.length D : Value).ownBlock ∧ some k_ ≠ (M : Value).ownBlock ∧ k_ ≠ c ∧ k_ < v ∧ k_ < c ∧ (¬ GXp26 k_ ∨ some k_ = (.slice z E.length F : Value).ownBlock) ∧ GXp26P k_ ∧ ¬ GXp26u0 k_ ∧ k_ ≠ m)) k9_ ∧ some k9_ ≠ (.slice z E.length F : Value).ownBlock) => (⟨Oa.1, trivial⟩ : _ ∧ True)) _ ez_).1.2.2.2.2.2.2.1) e_⟩)))
          (case aS => exact (below_size (hs_ U.out)))
          (case aL => have := Ra.out; omega)
          intro Z Jb ho hb hg hat
          rw [← Ja.out] at ho
          replace l := Aside0.mk (Kd.S_after (ok := (fun k_ => some k_ ≠ (.slice B d.length D : Value).ownBlock ∧ k_ ≠ c ∧ k_ < v ∧ k_ < c ∧ GXp26 k_ ∧ k_ ≠ m)) (Kd.S_mono (sp_ l.out) (fun _ hk => ⟨⟨hk.1.1.1.1, ⟨hk.1.1.1.2.1, ⟨hk.1.1.1.2.2.1, ⟨hk.1.1.1.2.2.2, ⟨hk.1.1.2, hk.2⟩⟩⟩⟩⟩, hk.1.2⟩)) hg hat)
          replace b := Aside0.mk (Kd.R_over' (rp_ b.out) (Kd.S_typed (sp_ I.out)) (by decide) hg)
          replace a := Aside0.mk (blk_grown (bq_ a.out) hg (Kd.S_away I.out (fun _ hk => hk.1.2)))
          replace x := Aside0.mk (blk_grown (bq_ x.out) hg (Kd.S_away I.out (fun _ hk => hk.2)))
          replace U := Aside0.mk (hb)
          have L := Aside0.mk (ho)
          clear I A
          clear ho hb hg hat
          refine ho_ hK (e4_ a.out) (fun y => ?_)
          exact norm_ (by simp only [putAll, fr_]) (Sa (M, Z, m) _ ⟨y, (Kd.S_mono (sp_ L.out) (fun _ hk => ⟨hk.2.1, ⟨hk.1, ⟨hk.2.2.1, ⟨hk.2.2.2.1, ⟨hk.2.2.2.2.1, hk.2.2.2.2.2⟩⟩⟩⟩⟩)), (Kd.R_mono (rp_ b.out) (fun _ hk => ⟨hk.1.1.1, ⟨hk.1.2, ⟨hk.1.1.2, hk.2⟩⟩⟩)), (Kd.S_mono (sp_ l.out) (fun _ hk => ⟨hk.2, ⟨hk.1.1, ⟨hk.1.2.1, ⟨hk.1.2.2.2.2.2, ⟨hk.1.2.2.2.2.1, ⟨hk.1.2.2.2.1, hk.1.2.2.1⟩⟩⟩⟩⟩⟩)), (pb_ a.out), (pb_ x.out), fa.out, ga.out, Q.out, T.out, (hs_ U.out)⟩)
         skip
         refine box_stepL ?hg (N := 42) ?hd (cs := #[.slice B d.length D, .int .i64 q, .int .i64 s, .string u]) (t := 29) ?hr ?_; (case hd => rfl); (case hg => rfl); (case hr => first | (go_simp; done) | (go_simp; rfl))
         intro m hg sc da hb
         replace l := se_ l hg hb
         replace b := rb_ b hb
         replace A := se_ A hg hb
         have x := Aside0.mk (da)
         have fa := gq_ hg U
         have ga := gq_ hg U
         replace U := st_ U hb
         have Q := nk_ a hg
         have T := Ne_.mk (ng_ a.out hg)
         replace a := bk2_ a hb
         clear hb da hg
         refine ho_ hK (e4_ a.out) (fun y => ?_)
         refine o1_ 0 (m_ 13 1903) O (fun K hK => ?_)
         refine Kd.S_lit_step k29 _ 29 ?hg (N := 36) ?hd (xs := ([] : List (S29))) (inner := []) (ok := fun _ => True) (okp := fun _ => True) ?hr ?hp (fun _ hk => hk) trivial (Below.refl _ _) (Nat.le_refl _) (by simp) ?_; (case hd => rfl); (case hg => rfl); (case hr => first | (go_simp; done) | (go_simp; rfl)); (case hp => exact (Reps.none _ _))
         intro M Lc ua hb hg_ hnew_
         clear hg_ hnew_
         (first | rw [← pa.out] at ua | (simp only [Int.reduceToNat] at ua; rw [← pa.out] at ua))
         have I := Aside0.mk (Kd.S_lower (Kd.S_newB (Kd.S_newB (Kd.S_new' (Kd.S_new' (Kd.S_new' (Kd.S_ngz HGp26P.out (blk_lt (pb_ a.out)) (Kd.S_ngz HGp26u0.out (blk_lt (pb_ a.out)) (Kd.S_ngz HGp26.out (blk_lt (pb_ a.out)) ua))) (Kd.S_lt (sp_ l.out))) (Kd.R_lt (rp_ b.out))) (Kd.S_lt (sp_ A.out))) (pb_ a.out)) (pb_ x.out)) (below_size (hs_ U.out)))
         replace l := Aside0.mk (Kd.S_elder' (sp_ l.out) (Kd.S_base ua) hb)
         replace b := rb_ b hb
         replace A := Aside0.mk (Kd.S_elder' (sp_ A.out) (Kd.S_base ua) hb)
         replace a := bk2_ a hb
         replace x := bk2_ x hb
         replace U := st_ U hb
         clear hb ua
         refine ho_ hK (e4_ a.out) (fun y => ?_)
         refine o1_ 4 (m_ 13 1919) O (fun K hK => ?_)
         refine Kd.S_append_part_step k29 (w0 := w) w.heap.size (by rfl) (.tmp 36) (.tmp 39) 40 29 (.agg #[(.slice none 0 0), (.int .i64 0), (.int .i64 0), (.string ⟨#[]⟩)]) 56 rfl Tryz.underlying40 info29 rfl (by decide) (by omega) M aa E _ _ _ (fun k_ => some k_ ≠ (.slice z p.length F : Value).ownBlock ∧ some k_ ≠ (.slice B d.length D : Value).ownBlock ∧ k_ ≠ c ∧ k_ ≠ m ∧ ¬ GXp26 k_ ∧ ¬ GXp26u0 k_) (fun k_ => some k_ ≠ (.slice B d.length D : Value).ownBlock ∧ some k_ ≠ (M : Value).ownBlock ∧ k_ ≠ c ∧ k_ < v ∧ k_ < c ∧ (¬ GXp26 k_ ∨ some k_ = (.slice z E.length F : Value).ownBlock) ∧ GXp26P k_ ∧ ¬ GXp26u0 k_ ∧ k_ ≠ m) rfl rfl ?aR (fun k_ hx_ ho_ => by have hz_ : ((((fun k_ => some k_ ≠ (.slice B d.length D : Value).ownBlock ∧ some k_ ≠ (M : Value).ownBlock ∧ k_ ≠ c ∧ k_ < v ∧ k_ < c ∧ (¬ GXp26 k_ ∨ some k_ = (.slice z E.length F : Value).ownBlock) ∧ GXp26P k_ ∧ ¬ GXp26u0 k_ ∧ k_ ≠ m)) k_ ∧ ¬ GXp26 k_) ∧ some k_ ≠ (.slice z p.length F : Value).ownBlock) := ⟨⟨hx_, fun g_ => (hx_.2.2.2.2.2.1).elim (fun h_ => h_ g_) (fun h_ => ho_ h_)⟩, fun e_ => ho_ (e_.trans Kd.own_len)⟩; exact ⟨⟨hz_.2, ⟨hz_.1.1.1, ⟨hz_.1.1.2.2.1, ⟨hz_.1.1.2.2.2.2.2.2.2.2, ⟨hz_.1.2, hz_.1.1.2.2.2.2.2.2.2.1⟩⟩⟩⟩⟩, hz_.1.1.2.1⟩) ?aF ?aO ?aB ?aS ?aL ?_
         (case aR => exact (Kd.S_mono (A.out) (fun k_ hk => ⟨hk.1.1.1.1.1.1, ⟨hk.2, ⟨hk.1.1.1.1.1.2.1, ⟨hk.1.1.1.1.1.2.2.1, ⟨hk.1.1.1.1.1.2.2.2, ⟨hk.1.1.1.1.2, ⟨hk.1.1.1.2, ⟨hk.1.1.2, hk.1.2⟩⟩⟩⟩⟩⟩⟩⟩)))
         (case aB => exact (hs_ U.out))
         (case aF => exact (fun k_ hk => ⟨Kd.fresh' (Kd.S_lt (sp_ l.out)) k_ hk, Kd.fresh' (Kd.R_lt (rp_ b.out)) k_ hk, Kd.freshB (g := c) (o := .cells #[.slice B d.length D, .int .i64 q, .int .i64 s, .string u] 29 (0, 0)) (pb_ a.out) k_ hk, Kd.freshB (g := m) (o := .cells #[.slice B d.length D, .int .i64 q, .int .i64 s, .string u] 29 (0, 0)) (pb_ x.out) k_ hk, (fun g_ => Nat.lt_irrefl _ (Nat.lt_of_lt_of_le (Nat.lt_trans (HGp26.out k_ g_) (blk_lt (pb_ a.out))) hk)), (fun g_ => Nat.lt_irrefl _ (Nat.lt_of_lt_of_le (Nat.lt_trans (HGp26u0.out k_ g_) (blk_lt (pb_ a.out))) hk))⟩))
         (case aO => exact (Kd.S_mono (sp_ I.out) (fun k_ hk => ⟨⟨hk.1.1.1.1.2, ⟨hk.1.1.1.2, ⟨hk.1.2, ⟨hk.2, ⟨hk.1.1.1.1.1.1.1.2, hk.1.1.1.1.1.1.2⟩⟩⟩⟩⟩, fun e_ => (fun ez_ => hk.1.1.1.1.1.2 ((fun (k9_ : Nat) (Oa : ((fun k_ => some k_ ≠ (.slice B d.length D : Value).ownBlock ∧ some k_ ≠ (M : Value).ownBlock ∧ k_ ≠ c ∧ k_ < v ∧ k_ < c ∧ (¬ GXp26 k_ ∨ some k_ = (.slice z E.length F : Value).ownBlock) ∧ GXp26P k_ ∧ ¬ GXp26u0 k_ ∧ k_ ≠ m)) k9_ ∧ some k9_ ≠ (.slice z E.length F : Value).ownBlock) => (⟨Oa.1, trivial⟩ : _ ∧ True)) _ ez_).1.2.2.2.2.2.2.1) e_⟩)))
         (case aS => exact (below_size (hs_ U.out)))
         (case aL => have := Ra.out; omega)
         intro Z Jb ho hb hg hat
         rw [← Ja.out] at ho
         replace l := Aside0.mk (Kd.S_after (ok := (fun k_ => some k_ ≠ (.slice B d.length D : Value).ownBlock ∧ k_ ≠ c ∧ k_ < v ∧ k_ < c ∧ GXp26 k_ ∧ k_ ≠ m)) (Kd.S_mono (sp_ l.out) (fun _ hk => ⟨⟨hk.1.1.1.1, ⟨hk.1.1.1.2.1, ⟨hk.1.1.1.2.2.1, ⟨hk.1.1.1.2.2.2, ⟨hk.1.1.2, hk.1.2⟩⟩⟩⟩⟩, hk.2⟩)) hg hat)
         replace b := Aside0.mk (Kd.R_over' (rp_ b.out) (Kd.S_typed (sp_ I.out)) (by decide) hg)
         replace a := Aside0.mk (blk_grown (bq_ a.out) hg (Kd.S_away I.out (fun _ hk => hk.1.2)))
         replace x := Aside0.mk (blk_grown (bq_ x.out) hg (Kd.S_away I.out (fun _ hk => hk.2)))
         replace U := Aside0.mk (hb)
         have L := Aside0.mk (ho)
         clear I A
         clear ho hb hg hat
         refine ho_ hK (e4_ a.out) (fun y => ?_)
         exact norm_ (by simp only [putAll, fr_]) (Sa (M, Z, m) _ ⟨y, (Kd.S_mono (sp_ L.out) (fun _ hk => ⟨hk.2.1, ⟨hk.1, ⟨hk.2.2.1, ⟨hk.2.2.2.1, ⟨hk.2.2.2.2.1, hk.2.2.2.2.2⟩⟩⟩⟩⟩)), (Kd.R_mono (rp_ b.out) (fun _ hk => ⟨hk.1.1.1, ⟨hk.1.2, ⟨hk.1.1.2, hk.2⟩⟩⟩)), (Kd.S_mono (sp_ l.out) (fun _ hk => ⟨hk.2, ⟨hk.1.1, ⟨hk.1.2.1, ⟨hk.1.2.2.2.2.2, ⟨hk.1.2.2.2.2.1, ⟨hk.1.2.2.2.1, hk.1.2.2.1⟩⟩⟩⟩⟩⟩)), (pb_ a.out), (pb_ x.out), fa.out, ga.out, Q.out, T.out, (hs_ U.out)⟩)
        rintro ⟨M, Z, m⟩ wa ⟨uc, Kb, Lb, Mb, Nb, Ob, Pb, Qb, Rb, Sb, Oa⟩
        have L : Aside0 (Kd.S k29 29 wa w.heap.size (fun k_ => some k_ ≠ (.slice B d.length D : Value).ownBlock ∧ some k_ ≠ (.slice z p.length F : Value).ownBlock ∧ k_ ≠ c ∧ k_ ≠ m ∧ ¬ GXp26 k_ ∧ ¬ GXp26u0 k_) Z X) := ⟨Kb⟩
        replace b : Aside0 (Kd.R k99 99 wa w.heap.size (fun k_ => v ≤ k_ ∧ GXp26u0 k_ ∧ k_ < c ∧ ¬ GXp26 k_) (.slice B d.length D) d) := ⟨Lb⟩
        replace l : Aside0 (Kd.S (Kd.opt k29) 29 wa w.heap.size (fun k_ => some k_ ≠ (Z : Value).ownBlock ∧ some k_ ≠ (.slice B d.length D : Value).ownBlock ∧ k_ ≠ c ∧ k_ ≠ m ∧ GXp26 k_ ∧ k_ < c ∧ k_ < v) (.slice z p.length F) (Kd.gap ((G : Int).toNat) p)) := ⟨Mb⟩
        replace a : Aside0 (wa.heap[c]? = some (.cells #[.slice B d.length D, .int .i64 q, .int .i64 s, .string u] 29 (0, 0))) := ⟨Nb⟩
        have x : Aside0 (wa.heap[m]? = some (.cells #[.slice B d.length D, .int .i64 q, .int .i64 s, .string u] 29 (0, 0))) := ⟨Ob⟩
        have fa := Ge_.mk Pb
        have ga := Ge_.mk Qb
        have Q := Ne_.mk Rb
        have T := Ne_.mk Sb
        replace U : Aside0 (Below w.heap.size w wa) := ⟨Oa⟩
        clear A Kb Lb Mb Nb Ob Pb Qb Rb Sb Oa
        have y : wa.cell? ⟨c, 0, none⟩ = some (.slice B d.length D) ∧ wa.cell? ⟨c, 1, none⟩ = some (.int .i64 q) ∧ wa.cell? ⟨c, 2, none⟩ = some (.int .i64 s) ∧ wa.cell? ⟨c, 3, none⟩ = some (.string u) := uc
        refine nm_ ?_
        refine o1_ 7 (b_ 11 2) O (fun K hK => ?_)
        refine Kd.S_append_box_step k29 (w0 := w) w.heap.size (by rfl) (.tmp 40) (.tmp 42) 40 29 (.agg #[(.slice none 0 0), (.int .i64 0), (.int .i64 0), (.string ⟨#[]⟩)]) 56 rfl Tryz.underlying40 info29 rfl (by decide) (by omega) Z X (⟨d, q, s, u⟩ : S29) [.slice B d.length D, .int .i64 q, .int .i64 s, .string u] (fun k_ => some k_ ≠ (.slice z p.length F : Value).ownBlock ∧ k_ ≠ c ∧ k_ ≠ m ∧ ¬ GXp26 k_) (fun k_ => some k_ = (.slice B d.length D : Value).ownBlock) m (pb_ x.out) rfl rfl ?aP (fun k_ hk_ => ((Kd.R_mono (ok' := fun k_ => ((fun k_ => some k_ ≠ (.slice z p.length F : Value).ownBlock ∧ k_ ≠ c ∧ k_ ≠ m ∧ ¬ GXp26 k_)) k_ ∧ some k_ ≠ (Z : Value).ownBlock) (Kd.R_types (Kd.R_types (Kd.R_apart' (Kd.R_apart' (b.out) (Kd.S_typed l.out) (by decide)) (Kd.S_typed L.out) (by decide)) a.out (by decide)) x.out (by decide)) (fun k_ hk => ⟨⟨hk.1.1.1.2, ⟨hk.1.2, ⟨hk.2, hk.1.1.1.1.2.2.2⟩⟩⟩, hk.1.1.2⟩))).1 k_ hk_.symm) ?aF ?aO ?aB ?aS ?aL ?_
        (case aP => exact k29_mkM _ _ _ (⟨d, q, s, u⟩ : S29) (Kd.R_mono (Kd.R_tight rfl (Kd.R_mono (ok' := fun k_ => ((fun k_ => some k_ ≠ (.slice z p.length F : Value).ownBlock ∧ k_ ≠ c ∧ k_ ≠ m ∧ ¬ GXp26 k_)) k_ ∧ some k_ ≠ (Z : Value).ownBlock) (Kd.R_types (Kd.R_types (Kd.R_apart' (Kd.R_apart' (b.out) (Kd.S_typed l.out) (by decide)) (Kd.S_typed L.out) (by decide)) a.out (by decide)) x.out (by decide)) (fun k_ hk => ⟨⟨hk.1.1.1.2, ⟨hk.1.2, ⟨hk.2, hk.1.1.1.1.2.2.2⟩⟩⟩, hk.1.1.2⟩))) (fun _ h_ => h_)))
        (case aB => exact (hs_ U.out))
        (case aF => exact (fun k_ hk => ⟨Kd.fresh' (Kd.S_lt (sp_ l.out)) k_ hk, Kd.freshB (g := c) (o := .cells #[.slice B d.length D, .int .i64 q, .int .i64 s, .string u] 29 (0, 0)) (pb_ a.out) k_ hk, Kd.freshB (g := m) (o := .cells #[.slice B d.length D, .int .i64 q, .int .i64 s, .string u] 29 (0, 0)) (pb_ x.out) k_ hk, (fun g_ => Nat.lt_irrefl _ (Nat.lt_of_lt_of_le (Nat.lt_trans (HGp26.out k_ g_) (blk_lt (pb_ a.out))) hk))⟩))
        (case aO => exact (Kd.S_mono (sp_ L.out) (fun k_ hk => ⟨⟨hk.2.1, ⟨hk.2.2.1, ⟨hk.2.2.2.1, hk.2.2.2.2.1⟩⟩⟩, fun e_ => (fun ez_ => hk.2.2.2.2.2 (b.out.1 _ ez_.symm).2.1) e_⟩)))
        (case aS => exact (below_size (hs_ U.out)))
        (case aL => have := zb.out; omega)
        intro ob Mc ho hb hg hat
        rw [← rb.out] at ho
        replace l := Aside0.mk (Kd.S_after (ok := (fun k_ => some k_ ≠ (.slice B d.length D : Value).ownBlock ∧ k_ ≠ c ∧ k_ ≠ m ∧ GXp26 k_ ∧ k_ < c ∧ k_ < v)) (Kd.S_mono (sp_ l.out) (fun _ hk => ⟨⟨hk.2.1, ⟨hk.2.2.1, ⟨hk.2.2.2.1, ⟨hk.2.2.2.2.1, ⟨hk.2.2.2.2.2.1, hk.2.2.2.2.2.2⟩⟩⟩⟩⟩, hk.1⟩)) hg hat)
        replace a := Aside0.mk (blk_grown (bq_ a.out) hg (Kd.S_away L.out (fun _ hk => hk.2.2.1)))
        replace x := Aside0.mk (blk_grown (bq_ x.out) hg (Kd.S_away L.out (fun _ hk => hk.2.2.2.1)))
        replace U := Aside0.mk (hb)
        have ra := Aside0.mk (ho)
        clear L b
        clear ho hb hg hat
        refine ho_ hK (e4_ a.out) (fun y => ?_)
        refine o1_ 11 (b_ 12 1) O (fun K hK => ?_)
        refine Kd.S_append_rest_step k29 (w0 := w) w.heap.size (by rfl) (.tmp 43) (.tmp 46) 40 29 (.agg #[(.slice none 0 0), (.int .i64 0), (.int .i64 0), (.string ⟨#[]⟩)]) 56 rfl Tryz.underlying40 info29 rfl (by decide) (by omega) ob W p z p.length F ((G : Int).toNat) cp26b (fun k_ => k_ ≠ c ∧ k_ ≠ m) (fun k_ => some k_ ≠ (ob : Value).ownBlock ∧ k_ ≠ c ∧ k_ ≠ m ∧ GXp26 k_ ∧ k_ < c ∧ k_ < v) rfl KLp26.out (by rw [show (if F = (G : Int).toNat then z else (z : Option Addr).map (·.add ((G : Int).toNat * (k29).sz))) = Ap26b from KAp26.out.symm, ← qa.out]; rfl) ?aR (fun k_ hk ho_ => ⟨⟨hk.2.1, hk.2.2.1⟩, hk.1⟩) ?aF ?aO ?aB ?aS ?aL ?_
        (case aR => exact (Kd.S_mono (l.out) (fun k_ hk => ⟨hk.2, ⟨hk.1.2.1, ⟨hk.1.2.2.1, ⟨hk.1.2.2.2.1, ⟨hk.1.2.2.2.2.1, hk.1.2.2.2.2.2⟩⟩⟩⟩⟩)))
        (case aB => exact (hs_ U.out))
        (case aF => exact (fun k_ hk => ⟨Kd.freshB (g := c) (o := .cells #[.slice B d.length D, .int .i64 q, .int .i64 s, .string u] 29 (0, 0)) (pb_ a.out) k_ hk, Kd.freshB (g := m) (o := .cells #[.slice B d.length D, .int .i64 q, .int .i64 s, .string u] 29 (0, 0)) (pb_ x.out) k_ hk⟩))
        (case aO => exact (Kd.S_mono (sp_ ra.out) (fun k_ hk => ⟨⟨hk.2.1, hk.2.2.1⟩, fun e_ => hk.2.2.2 e_.1.2.2.2.1⟩)))
        (case aS => exact (below_size (hs_ U.out)))
        (case aL => have := Ab.out; rw [qa.out] at this; omega)
        intro vc Nc ho hb hg hat
        rw [← qa.out] at ho
        rw [← sb.out] at ho
        replace a := Aside0.mk (blk_grown (bq_ a.out) hg (Kd.S_away ra.out (fun _ hk => hk.2.1)))
        replace x := Aside0.mk (blk_grown (bq_ x.out) hg (Kd.S_away ra.out (fun _ hk => hk.2.2.1)))
        replace U := Aside0.mk (hb)
        have tb := Aside0.mk (ho)
        clear ra l
        clear ho hb hg hat
        refine ho_ hK (e4_ a.out) (fun y => ?_)
        refine p_ O ?_
        refine done_ (done_of O.out (by kernel_rfl)) ?_
        try go_wp2
        go_roundg oa
        case measure => have := Wa.out; have := Za.out; have := HJ11.out; omega
        case rel => exact ⟨(nb), (wrap64 (J + 1)), rs_, H', ⟨by have := Wa.out; have := Za.out; have := HJ11.out; omega⟩, ⟨Kd.S_mono (sp_ tb.out) (fun _ hk => trivial)⟩, ⟨hs_ U.out⟩⟩
   have Hb : decide (J < (l0.length : Int)) = false := decide_eq_false c4
   clear c4
   obtain rfl := Option.some.inj H
   go_wp2
   go_ret
   exact ⟨_, rr_, sp_ l.out, hs_ U.out⟩
def spec_AllAlarms.l0 : Nat → List (S26) → List (S29) → Int → Option ((List (S29)))
 | 0, _, _, _ => none
 | k + 1, x0, x3, x4 => if x4 < (x0.length : Int) then (if 0 ≤ x4 then ((spec_AlarmsIn.f k ((rd_T26 x0 x4).f0) ((rd_T26 x0 x4).f1) ((rd_T26 x0 x4).f2)).bind fun t1288 => (if x3.length + t1288.length < 2513169434916 then (spec_AllAlarms.l0 k x0 (x3 ++ t1288) (wrap64 (x4 + 1))) else (none))) else (none)) else ((spec_l8Sort.f k x3).bind fun t1294 => (some t1294))
def spec_AllAlarms.f (k : Nat) (l0 : List (S26)) : Option ((List (S29))) := spec_AllAlarms.l0 k l0 (([] : List (S29))) 0
theorem spec_AllAlarms.calls (k : Nat) (A0 : Option Addr) (c0 : Nat) (l0 : List (S26)) (r : List (S29)) (w : World) (R : Kd.C k26 w A0 l0.length l0) (T : l0.length ≤ c0) (h : spec_AllAlarms.f k l0 = some r) :
  Calls Tryz.prog 46 #[.slice A0 l0.length c0] w fun e w' => ∃ v0_ : Value, e = .returned (v0_) ∧ Kd.S k29 29 w' w.heap.size (fun _ => True) v0_ r ∧ Below w.heap.size w w' := by
 have hu26 := Tryz.underlying26
 have ha := Aside0.mk R
 have ta := Aside0.mk T
 clear R T
 have j := Aside0.mk (Below.refl w.heap.size w)
 have H : (spec_AllAlarms.l0 k l0 (([] : List (S29))) 0) = some r := h
 clear h
 obtain ⟨B, hy_⟩ : ∃ y_ : List (S29), y_ = (([] : List (S29))) := ⟨_, rfl⟩
 replace H : (spec_AllAlarms.l0 k l0 B 0) = some r := hm_
 have u := Aside0.mk hy_; clear hy_
 have H' := Aside0.mk H
 clear H
 go_enter Tryz.func46, Tryz.ntmps46
 go_wp2_with (first | ((with_reducible refine gd_ 5 rfl ?_); refine Kd.S_lit k29 _ 29 ?hg (N := 5) ?hd (xs := ([] : List (S29))) (inner := []) (ok := fun _ => True) (okp := fun _ => True) ?hr ?hp (fun _ hk => hk) trivial (Below.refl _ _) (Nat.le_refl _) (by simp) ?_; (case hd => rfl); (case hg => rfl); (case hr => first | (go_simp; done) | (go_simp; rfl)); (case hp => exact (Reps.none _ _)); intro ia w2 D hb hg_ hnew_; clear hg_ hnew_; (first | rw [← u.out] at D | (simp only [Int.reduceToNat] at D; rw [← u.out] at D)); have I := sw_ D j; have U := st_ j hb; clear j; have j := U; clear U; clear hb D))
 go_loopg [3, 4] k (fun kq v3 v4 w' => ∃ (i : List (S29)) (a : Int), v4 = .int .i64 a ∧ Aside0 (spec_AllAlarms.l0 kq l0 i a = some r) ∧ Aside0 (kq ≤ k) ∧ Aside0 (Kd.S k29 29 w' w.heap.size (fun _ => True) v3 i) ∧ Aside0 (Below w.heap.size w w'))
 case atStart => exact ⟨(B), (0), rs_, H', ⟨Nat.le_refl _⟩, ⟨sp_ I.out⟩, ⟨hs_ j.out⟩⟩
 case round =>
  clear H'
  obtain ⟨i, a, rfl, HA, V, d, j⟩ := hrel
  cases gk with
  | zero => exact absurd HA.out (by simp [spec_AllAlarms.l0])
  | succ k1 =>
   have H := HA.out
   clear HA
   simp only [spec_AllAlarms.l0] at H
   replace H := ie_ H; rcases H with ⟨W, H⟩ | ⟨W, H⟩
   ·
    have X := decide_eq_true W
    clear W
    replace H := id_ H; obtain ⟨qa, H⟩ := H
    replace H := bi_ H; obtain ⟨p, A6, H⟩ := H
    replace H := im_ H; obtain ⟨Y, H⟩ := H
    obtain ⟨E, hy_⟩ : ∃ y_ : List (S29), y_ = (i ++ p) := ⟨_, rfl⟩
    replace H : (spec_AllAlarms.l0 k1 l0 E (wrap64 (a + 1))) = some r := hm_
    have J := Aside0.mk hy_; clear hy_
    have H' := Aside0.mk H
    clear H
    obtain ⟨q, s⟩ : 0 ≤ (a : Int) ∧ a < (l0.length : Int) := pq_
    obtain ⟨ga, F, G, O, c, g, l, m, n⟩ := at_T26 ha.out a q s
    cases O
    replace c := c2_ j c g; clear g; obtain ⟨c, g⟩ := c
    replace l := cl_ j.out l
    have z := Aside0.mk n
    have A := Aside0.mk m
    clear n m
    replace q := eq_true q; replace s := eq_true s
    go_wp2_with (first | ((with_reducible refine gate_callee (f := 27) rfl ?_); refine gl_ (some 17) Tryz.func27 #[.agg #[.int .i64 ((rd_T26 l0 a).f0), .int .i64 ((rd_T26 l0 a).f1), .slice F ((rd_T26 l0 a).f2).length G]] ?_; (with_reducible refine (spec_AlarmsIn.calls k1 ((rd_T26 l0 a).f0) ((rd_T26 l0 a).f1) _ _ ((rd_T26 l0 a).f2) p _ ?side1 ?side2 A6.out).mono ?_); (case side1 => exact cp_ ((Kd.C_below z.out j.out))); (case side2 => exact A.out); rintro e w8 ⟨ka, rfl, t, hb⟩; refine ⟨_, rfl, ?_⟩; obtain ⟨Z, v⟩ := Kd.S_name t; replace d := su_ v (sp_ d.out) hb; have o := sg_ v t j; replace j := st_ j hb; (try clear hb); (try clear hk); (try clear t); obtain ⟨ra, sa, aa⟩ := Kd.S_slice o.out; subst aa; obtain ⟨P, K, x⟩ := Kd.S_fp ((Kd.S_mono o.out (fun k_ hk => (⟨hk, fun ez_ => Nat.lt_irrefl _ (Nat.lt_of_lt_of_le ((Kd.S_R d.out).1 _ ez_.symm).2 hk.2)⟩ : _ ∧ some k_ ≠ (u3 : Value).ownBlock))))) | ((with_reducible refine gate_builtin (b := .append) (xs := #[.tmp 12, .tmp 17]) rfl ?_); at_builtin; refine Kd.S_append_rows k29 (w0 := w) w.heap.size rfl (.tmp 12) (.tmp 17) 40 29 (.agg #[(.slice none 0 0), (.int .i64 0), (.int .i64 0), (.string ⟨#[]⟩)]) 56 rfl Tryz.underlying40 info29 rfl (by decide) (by omega) u3 i p _ _ _ (fun _ => True) P rfl rfl ?aR (fun k_ hk_ => ⟨trivial, (x k_ hk_).1.2⟩) ?aF ?aO ?aB ?aS ?aL ?_; (case aR => exact K); (case aB => exact (hs_ j.out)); (case aF => exact (fun _ _ => trivial)); (case aO => exact (Kd.S_mono (sp_ d.out) (fun k_ hk => ⟨trivial, fun e_ => (fun ez_ => Nat.lt_irrefl _ (Nat.lt_of_lt_of_le hk.2 (x _ ez_).1.1.2)) e_⟩))); (case aS => exact (below_size (hs_ j.out))); (case aL => have := Y.out; omega); intro la w9 ho hb hg hat; rw [← J.out] at ho; replace j := Aside0.mk (hb); have L := Aside0.mk (ho); clear d o; clear ho hb hg hat))
    go_roundg k1
    case measure => have := V.out; omega
    case rel => exact ⟨(E), (wrap64 (a + 1)), rs_, H', ⟨by have := V.out; omega⟩, ⟨sp_ L.out⟩, ⟨hs_ j.out⟩⟩
   have X : decide (a < (l0.length : Int)) = false := decide_eq_false W
   clear W
   replace H := bi_ H; obtain ⟨Q, ma, H⟩ := H
   obtain rfl := Option.some.inj H
   obtain ⟨ba, ca, da⟩ := Kd.S_slice d.out
   subst da
   go_wp2_with (first | ((with_reducible refine gate_callee (f := 89) rfl ?_); refine gl_ (some 20) Tryz.func89 #[.slice ba i.length ca] ?_; (with_reducible refine (spec_l8Sort.calls k1 _ _ i Q _ ?side1 ?side2 ma.out).mono ?_); (case side1 => exact cp_ ((Kd.S_reads' d.out).2.2)); (case side2 => exact (Kd.S_reads' d.out).2.1); rintro e ya ⟨na, rfl, t, hb⟩; refine ⟨_, rfl, ?_⟩; obtain ⟨ea, y⟩ := Kd.S_name t; replace d := su_ y (sp_ d.out) hb; have M := sg_ y t j; replace j := st_ j hb; (try clear hb); (try clear hk); (try clear t)))
   go_ret
   exact ⟨_, rr_, Kd.S_mono (sp_ M.out) (fun _ hk => trivial), hs_ j.out⟩
def spec_l6Copy.f (k : Nat) (a0_0 : Int) (l0_1 : List (S29)) : Option (Int × (List (S29))) := (spec_l4All.f k l0_1).bind fun t156 => (some (a0_0, t156))
theorem spec_l6Copy.calls (k : Nat) (l : Int) (m : Option Addr) (o : Nat) (c : List (S29)) (O : Int) (P : List (S29)) (w : World) (t : Kd.C k29 w m c.length c) (u : c.length ≤ o) (h : spec_l6Copy.f k l c = some (O, P)) :
  Calls Tryz.prog 92 #[.agg #[.int .i64 l, .slice m c.length o]] w fun e w' => ∃ v1_ : Value, e = .returned (.agg #[.int .i64 O, v1_]) ∧ Kd.S k29 29 w' w.heap.size (fun _ => True) v1_ P ∧ Below w.heap.size w w' := by
 have hu80 := Tryz.underlying80
 have z := Aside0.mk t
 have A := Aside0.mk u
 clear t u
 have r := Aside0.mk (Below.refl w.heap.size w)
 have H : ((spec_l4All.f k c).bind fun s => (some (l, s))) = some (O, P) := h
 clear h
 replace H := bi_ H; obtain ⟨s, Z, H⟩ := H
 simp only [Option.some.injEq, Prod.mk.injEq] at H
 obtain ⟨rfl, rfl⟩ := H
 go_enter Tryz.func92, Tryz.ntmps92
 try go_wp2_with (first | ((with_reducible refine gd_ 1 rfl ?_); refine bv_ 1 #[.int .i64 l, .slice m c.length o] 80 ?_; intro x hg w3 p hb; have b := Aside0.mk (p); have B := gq_ hg r; replace r := st_ r hb; have Q := Ge_.mk B.out; clear hb p hg) | ((with_reducible refine gd_ 2 rfl ?_); refine bv_ 2 #[.int .i64 0, .slice none 0 0] 80 ?_; intro q hg w4 p hb; have a := Aside0.mk (p); have D := gq_ hg r; replace r := st_ r hb; have R := Ge_.mk D.out; obtain ⟨g, j, b⟩ := nb_ b hg hb; clear hb p hg))
 replace b := Aside0.mk (blk_drew b.out)
 replace a := Aside0.mk (blk_drew a.out)
 replace r := Aside0.mk (bd_ r.out)
 refine start_ (n := 7) (S := fun w' => w'.cell? ⟨x, 0, none⟩ = some (.int .i64 l) ∧ w'.cell? ⟨x, 1, none⟩ = some (.slice m c.length o)) (ds := []) (b_ 0 7) (by kernel_rfl) rfl rfl ⟨bx_ b.out 0, bx_ b.out 1⟩ (fun d => ?_)
 generalize w4.drew = w5 at b a r d ⊢
 refine pure_ (i := 0) (N := some 3) (v := ?_) (a' := ?_) (b_ 1 6) rfl rfl (by kernel_rfl) (fun _ _ _ h => h) (Or.inl ⟨by rfl, ?_⟩) ?_ ?_
 rotate_left
 ·
  intro w'
  go_simp
  with_reducible rfl
 rotate_left
 ·
  simp only [fr_]
  rfl
 refine pure_ (i := 2) (N := some 5) (v := ?_) (a' := ?_) #[t_,f_,t_,f_,f_,f_,f_] rfl rfl (by kernel_rfl) (fun _ _ _ h => h) (Or.inl ⟨by rfl, ?_⟩) ?_ ?_
 rotate_left
 ·
  intro w'
  go_simp
  with_reducible rfl
 rotate_left
 ·
  simp only [fr_]
  rfl
 refine take_ (i := 1) (N := some 4) (v := ?_) (a' := ?_) (b_ 3 4) rfl rfl (by kernel_rfl) (fun _ _ _ h => h) (Or.inl ⟨by rfl, ?_⟩) d ?_ ?_
 rotate_left
 ·
  rintro w' ⟨s0, s1⟩
  go_simp
  with_reducible rfl
 rotate_left
 ·
  simp only [fr_]
  rfl
 refine take_ (i := 3) (N := some 6) (v := ?_) (a' := ?_) (b_ 4 3) rfl rfl (by kernel_rfl) (fun _ _ _ h => h) (Or.inl ⟨by rfl, ?_⟩) d ?_ ?_
 rotate_left
 ·
  rintro w' ⟨s0, s1⟩
  go_simp
  with_reducible rfl
 rotate_left
 ·
  simp only [fr_]
  rfl
 refine one_ (i := 4) (N := some 7) (b_ 5 2) rfl rfl (by kernel_rfl) (by decide) (fun K G => ?_)
 refine gs_ Tryz.func82 #[.slice m c.length o] ?_
 with_reducible refine (spec_l4All.calls k _ _ c s _ ?side1 ?side2 Z.out).mono ?_
 (case side1 => exact cp_ ((Kd.C_below z.out r.out)))
 (case side2 => exact A.out)
 rintro e V ⟨W, rfl, E, hb⟩
 refine ⟨_, rfl, ?_⟩
 have y := sw_ E r
 replace b := bk2_ b hb
 replace a := bk2_ a hb
 replace r := st_ r hb
 (try clear hb)
 (try clear hk)
 (try clear E)
 obtain ⟨T, U, F⟩ := Kd.S_slice y.out
 (first | subst F | (obtain ⟨rfl, rfl⟩ := si_ F))
 refine ho_ G (e2_ b.out) (fun d => ?_)
 refine pure_ (i := 5) (N := some 8) (v := ?_) (a' := ?_) (b_ 6 1) rfl rfl (by kernel_rfl) (fun _ _ _ h => h) (Or.inl ⟨by rfl, ?_⟩) ?_ ?_
 rotate_left
 ·
  intro w'
  go_simp
  with_reducible rfl
 rotate_left
 ·
  simp only [fr_]
  rfl
 refine one_ (i := 6) (N := none) (b_ 7 0) rfl rfl (by kernel_rfl) (by decide) (fun K G => ?_)
 have ba : V.cell? ⟨q, 0, none⟩ = some (.int .i64 0) := bx_ a.out 0
 have X := blk_frozen a.out 0
 have I := g.out
 have J := j.out
 have ca : V.cell? ⟨q, 1, none⟩ = some (.slice none 0 0) := bx_ a.out 1
 have Y := blk_frozen a.out 1
 have L := g.out
 have M := j.out
 refine skip_ (w1 := ?_) (by rfl) rfl ?_ ?_
 rotate_left
 ·
  go_simp
  rfl
 refine G.out _ _ ⟨(cg_ (d.1)), (cg_ (d.2))⟩ (fun d => ?_)
 clear G K
 refine done_ (by kernel_rfl) ?_
 try go_wp2
 refine bodyPost_ret (results_cell_row rfl _ _ q 80 #[.int .i64 l, .slice T s.length U] (0, 0) _ rfl (bp_ a.out) Tryz.underlying80 rfl (by kernel_rfl)) rfl ?_
 exact ⟨_, rr_, Kd.S_mono (sy_ y.out a.out) (fun _ hk => trivial), hs_ r.out⟩
def spec_l7Copy.l0 : Nat → Int → Int → Int → List (S80) → Int → Int → List (S80) → Option (Int × Int × (List (S80)))
 | 0, _, _, _, _, _, _, _ => none
 | k + 1, x4, x160000, x160001, x160002, x165000, x165001, x165002 => if x4 < (x160002.length : Int) then (if 0 ≤ x4 then ((spec_l6Copy.f k ((rd_T80 x160002 x4).f0) ((rd_T80 x160002 x4).f1)).bind fun bt166 => (if x165002.length < 4398046511104 then (spec_l7Copy.l0 k (wrap64 (x4 + 1)) x160000 x160001 x160002 x165000 x165001 (x165002 ++ [(⟨bt166.1, bt166.2⟩ : S80)])) else (none))) else (none)) else (some (x165000, x165001, x165002))
def spec_l7Copy.f (k : Nat) (a0_0 : Int) (a0_1 : Int) (l0_2 : List (S80)) : Option (Int × Int × (List (S80))) := spec_l7Copy.l0 k 0 a0_0 a0_1 l0_2 a0_0 a0_1 (([] : List (S80)))
theorem spec_l7Copy.calls (k : Nat) (m : Int) (n : Int) (da : Option Addr) (P : Nat) (l : List (S80)) (r1 : Int) (r2 : Int) (r3 : List (S80)) (w : World) (fa : Kd.C k80 w da l.length l) (ga : l.length ≤ P) (h : spec_l7Copy.f k m n l = some (r1, r2, r3)) :
  Calls Tryz.prog 59 #[.agg #[.int .i64 m, .int .i64 n, .slice da l.length P]] w fun e w' => ∃ v2_ : Value, e = .returned (.agg #[.int .i64 r1, .int .i64 r2, v2_]) ∧ Kd.S k80 80 w' w.heap.size (fun _ => True) v2_ r3 ∧ Below w.heap.size w w' := by
 have hu26 := Tryz.underlying26
 have hu80 := Tryz.underlying80
 have xa := Aside0.mk fa
 have Ua := Aside0.mk ga
 clear fa ga
 have I := Aside0.mk (Below.refl w.heap.size w)
 have H : (spec_l7Copy.l0 k 0 m n l m n (([] : List (S80)))) = some (r1, r2, r3) := h
 clear h
 obtain ⟨ha, hy_⟩ : ∃ y_ : List (S80), y_ = (([] : List (S80))) := ⟨_, rfl⟩
 replace H : (spec_l7Copy.l0 k 0 m n l m n ha) = some (r1, r2, r3) := hm_
 have ia := Aside0.mk hy_; clear hy_
 have H' := Aside0.mk H
 clear H
 go_enter Tryz.func59, Tryz.ntmps59
 go_wp2_with (first | ((with_reducible refine gd_ 1 rfl ?_); refine bv_ 1 #[.int .i64 m, .int .i64 n, .slice da l.length P] 26 ?_; intro ja hg w2 u hb; have c := Aside0.mk (u); have ya := gq_ hg I; replace I := st_ I hb; have Va := Ge_.mk ya.out; clear hb u hg) | ((with_reducible refine gd_ 2 rfl ?_); refine bv_ 2 #[.int .i64 0, .int .i64 0, .slice none 0 0] 26 ?_; intro V hg w3 u hb; have d := Aside0.mk (u); have za := gq_ hg I; replace I := st_ I hb; have Wa := Ge_.mk za.out; obtain ⟨y, z, c⟩ := nb_ c hg hb; clear hb u hg; have Cc := y.out; have Dc := z.out; obtain ⟨Ec, Fc, Gc, Hc, Ic, Jc⟩ := bc3_ c.out) | ((with_reducible refine gd_ 10 rfl ?_); refine Kd.S_lit k80 _ 80 ?hg (N := 10) ?hd (xs := ([] : List (S80))) (inner := []) (ok := fun _ => True) (okp := fun _ => True) ?hr ?hp (fun _ hk => hk) trivial (Below.refl _ _) (Nat.le_refl _) (by simp) ?_; (case hd => rfl); (case hg => rfl); (case hr => first | (go_simp; done) | (go_simp; rfl)); (case hp => exact (Reps.none _ _)); intro Kc w6 ka hb hg_ hnew_; clear hg_ hnew_; (first | rw [← ia.out] at ka | (simp only [Int.reduceToNat] at ka; rw [← ia.out] at ka)); have M := sw_ ka I; replace c := bk2_ c hb; replace d := bk2_ d hb; replace I := st_ I hb; clear hb ka; obtain ⟨Xa, Ya, Za⟩ := Kd.S_slice M.out; subst Za) | ((with_reducible refine gd_ 3 rfl ?_); refine bv_ 3 #[.int .i64 0, .int .i64 0, .slice none 0 0] 26 ?_; intro la hg w9 u hb; replace M := sb_ M hb; have i := Aside0.mk (u); have Aa := gq_ hg I; replace I := st_ I hb; have ab := Ge_.mk Aa.out; obtain ⟨A, B, c⟩ := nb_ c hg hb; obtain ⟨D, E, d⟩ := nb_ d hg hb; clear hb u hg; have bb := B.out; have cb := A.out; have db := E.out; have eb := D.out; obtain ⟨fb, gb, ib, jb, kb, lb⟩ := bc3_ i.out))
 go_loopg [4] k (fun kq v4 w' => ∃ (q : Int) (j : List (S80)) (r : Value), v4 = .int .i64 q ∧ Aside0 (spec_l7Copy.l0 kq q m n l m n j = some (r1, r2, r3)) ∧ Aside0 (kq ≤ k) ∧ Aside0 (Kd.S k80 80 w' w.heap.size (fun _ => True) r j) ∧ Aside0 (w'.heap[ja]? = some (.cells #[.int .i64 m, .int .i64 n, (.slice da l.length P)] 26 (0, 0))) ∧ Aside0 (w'.heap[V]? = some (.cells #[.int .i64 0, .int .i64 0, (.slice none 0 0)] 26 (0, 0))) ∧ Aside0 (w'.heap[la]? = some (.cells #[.int .i64 m, .int .i64 n, r] 26 (0, 0))) ∧ Aside0 (Below w.heap.size w w'))
 case atStart => exact ⟨(0), (ha), (.slice Xa ha.length Ya), rs_, H', ⟨Nat.le_refl _⟩, ⟨Kd.S_mono (sy_ M.out i.out) (fun _ hk => trivial)⟩, ⟨bq_ c.out⟩, ⟨bq_ d.out⟩, ⟨bp_ i.out⟩, ⟨hs_ I.out⟩⟩
 case round =>
  clear H'
  obtain ⟨q, j, r, rfl, HA, La, a, c, d, i, I⟩ := hrel
  cases gk with
  | zero => exact absurd HA.out (by simp [spec_l7Copy.l0])
  | succ k1 =>
   have H := HA.out
   clear HA
   simp only [spec_l7Copy.l0] at H
   replace H := ie_ H; rcases H with ⟨ma, H⟩ | ⟨ma, H⟩
   ·
    have Ba := decide_eq_true ma
    clear ma
    replace H := id_ H; obtain ⟨ob, H⟩ := H
    replace H := bi_ H; obtain ⟨⟨K, x⟩, pb, H⟩ := H; (try dsimp only at H)
    replace H := im_ H; obtain ⟨Ca, H⟩ := H
    obtain ⟨na, hy_⟩ : ∃ y_ : List (S80), y_ = (j ++ [(⟨K, x⟩ : S80)]) := ⟨_, rfl⟩
    replace H : (spec_l7Copy.l0 k1 (wrap64 (q + 1)) m n l m n na) = some (r1, r2, r3) := hm_
    have Da := Aside0.mk hy_; clear hy_
    have H' := Aside0.mk H
    clear H
    have qb := y.out
    have rb := z.out
    have sb := A.out
    have tb := B.out
    obtain ⟨ub, vb, wb, xb, yb, zb⟩ := bc3_ c.out
    obtain ⟨oa, pa⟩ : 0 ≤ (q : Int) ∧ q < (l.length : Int) := pq_
    obtain ⟨Ea, ua, va, Ma, J, L, Q, R⟩ := at_T80 xa.out q oa pa
    cases Ma
    replace J := c2_ I J L; clear L; obtain ⟨J, L⟩ := J
    have qa := Aside0.mk R
    have ra := Aside0.mk Q
    clear R Q
    replace oa := eq_true oa; replace pa := eq_true pa
    go_wp2_with (first | ((with_reducible refine gate_callee (f := 92) rfl ?_); refine gl_ (some 24) Tryz.func92 #[.agg #[.int .i64 ((rd_T80 l q).f0), .slice ua ((rd_T80 l q).f1).length va]] ?_; (with_reducible refine (spec_l6Copy.calls k1 ((rd_T80 l q).f0) _ _ ((rd_T80 l q).f1) K x _ ?side1 ?side2 pb.out).mono ?_); (case side1 => exact cp_ ((Kd.C_below qa.out I.out))); (case side2 => exact ra.out); rintro e Oc ⟨Lc, rfl, Fa, hb⟩; refine ⟨_, rfl, ?_⟩; obtain ⟨ea, sa⟩ := Kd.S_name Fa; replace a := su_ sa (sp_ a.out) hb; have F := sg_ sa Fa I; replace c := bk2_ c hb; replace d := bk2_ d hb; replace i := bk2_ i hb; replace I := st_ I hb; (try clear hb); (try clear hk); (try clear Fa)) | ((with_reducible refine gd_ 5 rfl ?_); refine bv_ 5 #[.int .i64 0, .slice none 0 0] 80 ?_; intro G hg Ab u hb; replace a := se_ a hg hb; replace F := sb_ F hb; have s := Aside0.mk (u); have Ga := gq_ hg I; replace I := st_ I hb; have Bb := Ge_.mk Ga.out; obtain ⟨W, X, c⟩ := nb_ c hg hb; obtain ⟨Y, Z, d⟩ := nb_ d hg hb; obtain ⟨aa, ba, i⟩ := nb_ i hg hb; clear hb u hg; have Cb := X.out; have Db := W.out; have Eb := Z.out; have Fb := Y.out; have Gb := ba.out; have Hb := aa.out; obtain ⟨Ib, Jb, Kb, Lb⟩ := bc2_ s.out; obtain ⟨T, U, Na⟩ := Kd.S_slice F.out; subst Na) | ((with_reducible refine gate_store (t := 80) (p := 5) rfl ?_); refine store_event (t := 80) (p := 5) (v := ?vo_w27) (w1 := ((Ab.setCell ⟨G, 0, none⟩ (.int .i64 K)).setCell ⟨G, 1, none⟩ (.slice T x.length U))) ?hg ?ho ?hn ?hr ?_; (case ho => rfl); (case hg => rfl); (case hn => rfl); (case hr => first | (go_simp; done) | (go_simp; rfl)); intro ca hw; replace a : Aside0 (Kd.S k80 80 ca w.heap.size (fun k_ => k_ < ea ∧ k_ ≠ G) r j) := ⟨(by rw [hw]; exact (Kd.S_mono (sf_ G a.out (fun _ hk => hk.2)) (fun _ hk => ⟨hk.1.2, hk.2⟩)))⟩; replace F : Aside0 (Kd.S k29 29 ca w.heap.size (fun k_ => ea ≤ k_) (.slice T x.length U) x) := ⟨(by rw [hw]; exact (Kd.S_mono (sy_ F.out s.out) (fun _ hk => hk.2)))⟩; replace c : Aside0 (ca.heap[ja]? = some (.cells #[.int .i64 m, .int .i64 n, .slice (some Ea) l.length P] 26 (0, 0))) := ⟨(by rw [hw]; exact (bq_ c.out))⟩; replace d : Aside0 (ca.heap[V]? = some (.cells #[.int .i64 0, .int .i64 0, .slice none 0 0] 26 (0, 0))) := ⟨(by rw [hw]; exact (bq_ d.out))⟩; replace i : Aside0 (ca.heap[la]? = some (.cells #[.int .i64 m, .int .i64 n, r] 26 (0, 0))) := ⟨(by rw [hw]; exact (bq_ i.out))⟩; replace s : Aside0 (ca.heap[G]? = some (.cells #[.int .i64 K, .slice T x.length U] 80 (0, 0))) := ⟨(by rw [hw]; exact (bp_ s.out))⟩; replace I : Aside0 (Below w.heap.size w ca) := ⟨(by rw [hw]; exact (hs_ I.out))⟩; clear hw; have Mb := E.out; have Nb := D.out; obtain ⟨Ob, Pb, Qb, Rb, Sb, Tb⟩ := bc3_ i.out; obtain ⟨Ub, Vb, Wb, Xb⟩ := bc2_ s.out; obtain ⟨Ha, wa, O⟩ := Kd.S_fp (Kd.S_types (Kd.S_apart' (F.out) (Kd.S_typed a.out) (by decide)) s.out (by decide))) | ((with_reducible refine gate_builtin (b := .append) (xs := #[.tmp 26, .tmp 28]) rfl ?_); at_builtin; refine Kd.S_append k80 (w0 := w) w.heap.size rfl (.tmp 26) (.tmp 28) 24 80 (.agg #[(.int .i64 0), (.slice none 0 0)]) 32 rfl Tryz.underlying24 info80 rfl (by decide) (by omega) r j (⟨K, x⟩ : S80) [.int .i64 K, .slice T x.length U] (fun k_ => k_ ≠ G) (fun k_ => Ha k_) rfl rfl ?aP (fun k_ hk_ => ⟨(O k_ hk_).1.2, (O k_ hk_).1.1.2⟩) ?aF ?aO ?aB ?aS ?aL ?_; (case aP => exact k80_mkM _ _ _ (⟨K, x⟩ : S80) (Kd.S_mono wa (fun _ h_ => h_))); (case aB => exact (hs_ I.out)); (case aF => exact (fun k_ hk => Kd.freshB (g := G) (o := .cells #[.int .i64 K, .slice T x.length U] 80 (0, 0)) (pb_ s.out) k_ hk)); (case aO => exact (Kd.S_mono (sp_ a.out) (fun k_ hk => ⟨hk.2, fun e_ => (fun ez_ => Nat.lt_irrefl _ (Nat.lt_of_lt_of_le hk.1 (O _ ez_).1.1.1)) e_⟩))); (case aS => exact (below_size (hs_ I.out))); (case aL => have := Ca.out; omega); intro Mc Pc ho hb hg hat; rw [← Da.out] at ho; replace c := Aside0.mk (blk_grown (bq_ c.out) hg (Kd.S_ne a.out c.out (by decide))); replace d := Aside0.mk (blk_grown (bq_ d.out) hg (Kd.S_ne a.out d.out (by decide))); replace i := Aside0.mk (blk_grown (bq_ i.out) hg (Kd.S_ne a.out i.out (by decide))); replace s := Aside0.mk (blk_grown (bq_ s.out) hg (Kd.S_away a.out (fun _ hk => hk.2))); replace I := Aside0.mk (hb); have ta := Aside0.mk (ho); clear a F; clear ho hb hg hat; obtain ⟨Oa, Pa, Qa⟩ := Kd.S_slice ta.out; subst Qa; obtain ⟨Yb, Zb, ac, bc, cc, dc⟩ := bc3_ i.out))
    go_roundg k1
    case measure => have := La.out; omega
    case rel => exact ⟨(wrap64 (q + 1)), (na), (.slice Oa na.length Pa), rs_, H', ⟨by have := La.out; omega⟩, ⟨Kd.S_mono (sy_ ta.out i.out) (fun _ hk => trivial)⟩, ⟨bq_ c.out⟩, ⟨bq_ d.out⟩, ⟨bp_ i.out⟩, ⟨hs_ I.out⟩⟩
   have Ba : decide (q < (l.length : Int)) = false := decide_eq_false ma
   clear ma
   simp only [Option.some.injEq, Prod.mk.injEq] at H
   obtain ⟨rfl, rfl, rfl⟩ := H
   have ec := y.out
   have fc := z.out
   have gc := A.out
   have hc := B.out
   obtain ⟨ic, jc, kc, lc, mc, nc⟩ := bc3_ c.out
   have oc := E.out
   have pc := D.out
   obtain ⟨qc, rc, sc, tc, uc, vc⟩ := bc3_ i.out
   obtain ⟨wc, xc, yc, zc, Ac, Bc⟩ := bc3_ d.out
   obtain ⟨Ra, Sa, Ta⟩ := Kd.S_slice a.out
   subst Ta
   go_wp2
   refine bodyPost_ret (results_cell_row rfl _ _ V 26 #[.int .i64 m, .int .i64 n, .slice Ra j.length Sa] (0, 0) _ rfl (bp_ d.out) Tryz.underlying26 rfl (by kernel_rfl)) rfl ?_
   exact ⟨_, rr_, Kd.S_mono (sy_ a.out d.out) (fun _ hk => trivial), hs_ I.out⟩
def spec_Sum.l0 : Nat → ByteArray → Int → Int → Option (Int)
 | 0, _, _, _ => none
 | k + 1, x0, x3, x4 => if x4 < (x0.size : Int) then (if 0 ≤ x4 then (spec_Sum.l0 k x0 (Go.bits .and .i64 (wrap64 ((Go.bits .xor .i64 x3 (wrap64 (bt x0 x4))) * 16777619)) 4294967295) (wrap64 (x4 + 1))) else (none)) else (some x3)
def spec_Sum.f (k : Nat) (a0 : ByteArray) : Option (Int) := spec_Sum.l0 k a0 2166136261 0
theorem spec_Sum.calls (k : Nat) (c : ByteArray) (r : Int) (w : World) (h : spec_Sum.f k c = some r) :
  Calls Tryz.prog 98 #[.string c] w fun e w' => e = .returned (.int .i64 r) ∧ Drawn0 w w' := by
 have H : (spec_Sum.l0 k c 2166136261 0) = some r := h
 clear h
 have H' := Aside0.mk H
 clear H
 go_enter Tryz.func98, Tryz.ntmps98
 go_wp2
 go_loopg [3, 4] k (fun kq o p w' => ∃ (b : Int) (a : Int), o = .int .i64 b ∧ p = .int .i64 a ∧ Aside0 (spec_Sum.l0 kq c b a = some r) ∧ Aside0 (kq ≤ k) ∧ Drawn0 w w')
 case atStart => exact ⟨(2166136261), (0), rs_, rs_, H', ⟨Nat.le_refl _⟩, by repeat (first | exact Drawn0.refl _ | apply Drawn0.step)⟩
 case round =>
  clear H'
  obtain ⟨b, a, rfl, rfl, j, d, ⟨m1, rfl⟩⟩ := hrel
  cases gk with
  | zero => exact absurd j.out (by simp [spec_Sum.l0])
  | succ q =>
   have H := j.out
   clear j
   simp only [spec_Sum.l0] at H
   replace H := ie_ H; rcases H with ⟨g, H⟩ | ⟨g, H⟩
   ·
    have i := decide_eq_true g
    clear g
    replace H := id_ H; obtain ⟨l, H⟩ := H
    have H' := Aside0.mk H
    clear H
    obtain ⟨m, n⟩ : 0 ≤ (a : Int) ∧ a < (c.size : Int) := pq_
    have s := bt_at c a
    replace m := eq_true m; replace n := eq_true n
    go_wp2
    go_roundg q
    case measure => have := d.out; omega
    case rel => exact ⟨(Go.bits .and .i64 (wrap64 ((Go.bits .xor .i64 b (wrap64 (bt c a))) * 16777619)) 4294967295), (wrap64 (a + 1)), rs_, rs_, H', ⟨by have := d.out; omega⟩, by repeat (first | exact Drawn0.refl _ | apply Drawn0.step)⟩
   have i : decide (a < (c.size : Int)) = false := decide_eq_false g
   clear g
   obtain rfl := Option.some.inj H
   go_wp2
   go_ret
   exact ⟨by first | rfl | (simp; done) | (simp [*]; done), by repeat (first | exact Drawn0.refl _ | apply Drawn0.step)⟩
def spec_PlainOk.l0 : Nat → ByteArray → Int → Option (Bool)
 | 0, _, _ => none
 | k + 1, x0, x3 => if x3 < (x0.size : Int) then (if 0 ≤ x3 then (if (bt x0 x3) < 32 then (some false) else (if (bt x0 x3) > 126 then (some false) else (if (bt x0 x3) = 34 then (some false) else (if (bt x0 x3) = 92 then (some false) else (spec_PlainOk.l0 k x0 (wrap64 (x3 + 1))))))) else (none)) else (some (decide ((x0.size : Int) ≤ 12)))
def spec_PlainOk.f (k : Nat) (a0 : ByteArray) : Option (Bool) := spec_PlainOk.l0 k a0 0
theorem spec_PlainOk.calls (k : Nat) (b : ByteArray) (r : Bool) (w : World) (h : spec_PlainOk.f k b = some r) :
  Calls Tryz.prog 122 #[.string b] w fun e w' => e = .returned (.bool r) ∧ Drawn0 w w' := by
 have H : (spec_PlainOk.l0 k b 0) = some r := h
 clear h
 have H' := Aside0.mk H
 clear H
 go_enter Tryz.func122, Tryz.ntmps122
 go_wp2
 go_loopg [3] k (fun kq K w' => ∃ (a : Int), K = .int .i64 a ∧ Aside0 (spec_PlainOk.l0 kq b a = some r) ∧ Aside0 (kq ≤ k) ∧ Drawn0 w w')
 case atStart => exact ⟨(0), rs_, H', ⟨Nat.le_refl _⟩, by repeat (first | exact Drawn0.refl _ | apply Drawn0.step)⟩
 case round =>
  clear H'
  obtain ⟨a, rfl, I, v, ⟨m1, rfl⟩⟩ := hrel
  cases gk with
  | zero => exact absurd I.out (by simp [spec_PlainOk.l0])
  | succ L =>
   have H := I.out
   clear I
   simp only [spec_PlainOk.l0] at H
   replace H := ie_ H; rcases H with ⟨x, H⟩ | ⟨x, H⟩
   ·
    have y := decide_eq_true x
    clear x
    replace H := id_ H; obtain ⟨J, H⟩ := H
    replace H := ie_ H; rcases H with ⟨z, H⟩ | ⟨z, H⟩
    ·
     have A := decide_eq_true z
     clear z
     obtain rfl := Option.some.inj H
     obtain ⟨c, d⟩ : 0 ≤ (a : Int) ∧ a < (b.size : Int) := pq_
     have n := bt_at b a
     replace c := eq_true c; replace d := eq_true d
     go_wp2
     go_ret
     exact ⟨by first | rfl | (simp; done) | (simp [*]; done), by repeat (first | exact Drawn0.refl _ | apply Drawn0.step)⟩
    have A : decide ((bt b a) < 32) = false := decide_eq_false z
    clear z
    replace H := ie_ H; rcases H with ⟨B, H⟩ | ⟨B, H⟩
    ·
     have C : decide (126 < (bt b a)) = true := decide_eq_true B
     clear B
     obtain rfl := Option.some.inj H
     obtain ⟨c, d⟩ : 0 ≤ (a : Int) ∧ a < (b.size : Int) := pq_
     have n := bt_at b a
     replace c := eq_true c; replace d := eq_true d
     obtain ⟨i, j⟩ : 0 ≤ (a : Int) ∧ a < (b.size : Int) := pq_
     have q := bt_at b a
     replace i := eq_true i; replace j := eq_true j
     go_wp2
     go_ret
     exact ⟨by first | rfl | (simp; done) | (simp [*]; done), by repeat (first | exact Drawn0.refl _ | apply Drawn0.step)⟩
    have C : decide (126 < (bt b a)) = false := decide_eq_false B
    clear B
    replace H := ie_ H; rcases H with ⟨u, H⟩ | ⟨u, H⟩
    ·
     have D : ((bt b a) == 34) = true := beq_iff_eq.mpr u
     have E : ((bt b a) != 34) = false := bne_eq_false_iff_eq.mpr u
     clear u
     obtain rfl := Option.some.inj H
     obtain ⟨c, d⟩ : 0 ≤ (a : Int) ∧ a < (b.size : Int) := pq_
     have n := bt_at b a
     replace c := eq_true c; replace d := eq_true d
     obtain ⟨i, j⟩ : 0 ≤ (a : Int) ∧ a < (b.size : Int) := pq_
     have q := bt_at b a
     replace i := eq_true i; replace j := eq_true j
     obtain ⟨o, p⟩ : 0 ≤ (a : Int) ∧ a < (b.size : Int) := pq_
     have F := bt_at b a
     replace o := eq_true o; replace p := eq_true p
     go_wp2
     go_ret
     exact ⟨by first | rfl | (simp; done) | (simp [*]; done), by repeat (first | exact Drawn0.refl _ | apply Drawn0.step)⟩
    have D : ((bt b a) == 34) = false := beq_eq_false_iff_ne.mpr u
    have E : ((bt b a) != 34) = true := bne_iff_ne.mpr u
    replace H := ie_ H; rcases H with ⟨g, H⟩ | ⟨g, H⟩
    ·
     have s : ((bt b a) == 92) = true := beq_iff_eq.mpr g
     have t : ((bt b a) != 92) = false := bne_eq_false_iff_eq.mpr g
     clear g
     obtain rfl := Option.some.inj H
     obtain ⟨c, d⟩ : 0 ≤ (a : Int) ∧ a < (b.size : Int) := pq_
     have n := bt_at b a
     replace c := eq_true c; replace d := eq_true d
     obtain ⟨i, j⟩ : 0 ≤ (a : Int) ∧ a < (b.size : Int) := pq_
     have q := bt_at b a
     replace i := eq_true i; replace j := eq_true j
     obtain ⟨o, p⟩ : 0 ≤ (a : Int) ∧ a < (b.size : Int) := pq_
     have F := bt_at b a
     replace o := eq_true o; replace p := eq_true p
     obtain ⟨l, m⟩ : 0 ≤ (a : Int) ∧ a < (b.size : Int) := pq_
     have G := bt_at b a
     replace l := eq_true l; replace m := eq_true m
     go_wp2
     go_ret
     exact ⟨by first | rfl | (simp; done) | (simp [*]; done), by repeat (first | exact Drawn0.refl _ | apply Drawn0.step)⟩
    have s : ((bt b a) == 92) = false := beq_eq_false_iff_ne.mpr g
    have t : ((bt b a) != 92) = true := bne_iff_ne.mpr g
    have H' := Aside0.mk H
    clear H
    obtain ⟨c, d⟩ : 0 ≤ (a : Int) ∧ a < (b.size : Int) := pq_
    have n := bt_at b a
    replace c := eq_true c; replace d := eq_true d
    obtain ⟨i, j⟩ : 0 ≤ (a : Int) ∧ a < (b.size : Int) := pq_
    have q := bt_at b a
    replace i := eq_true i; replace j := eq_true j
    obtain ⟨o, p⟩ : 0 ≤ (a : Int) ∧ a < (b.size : Int) := pq_
    have F := bt_at b a
    replace o := eq_true o; replace p := eq_true p
    obtain ⟨l, m⟩ : 0 ≤ (a : Int) ∧ a < (b.size : Int) := pq_
    have G := bt_at b a
    replace l := eq_true l; replace m := eq_true m
    go_wp2
    go_roundg L
    case measure => have := v.out; omega
    case rel => exact ⟨(wrap64 (a + 1)), rs_, H', ⟨by have := v.out; omega⟩, by repeat (first | exact Drawn0.refl _ | apply Drawn0.step)⟩
   have y : decide (a < (b.size : Int)) = false := decide_eq_false x
   clear x
   obtain rfl := Option.some.inj H
   go_wp2
   go_ret
   exact ⟨by first | rfl | (simp; done) | (simp [*]; done), by repeat (first | exact Drawn0.refl _ | apply Drawn0.step)⟩
def spec_l1In.f (a0 : Int) (a1 : Int) (a2 : Int) : Option (Bool) := if a0 ≥ a1 then (some (decide (a0 ≤ a2))) else (some false)
theorem spec_l1In.calls (a : Int) (b : Int) (g : Int) (r : Bool) (w : World) (h : spec_l1In.f a b g = some r) :
  Calls Tryz.prog 78 #[.int .i64 a, .int .i64 b, .int .i64 g] w fun e w' => e = .returned (.bool r) ∧ Drawn0 w w' := by
 have H : (if a ≥ b then (some (decide (a ≤ g))) else (some false)) = some r := h
 clear h
 replace H := ie_ H; rcases H with ⟨c, H⟩ | ⟨c, H⟩
 ·
  have d : decide (b ≤ a) = true := decide_eq_true c
  clear c
  obtain rfl := Option.some.inj H
  go_enter Tryz.func78, Tryz.ntmps78
  go_wp2
  go_ret
  exact ⟨by first | rfl | (simp; done) | (simp [*]; done), by repeat (first | exact Drawn0.refl _ | apply Drawn0.step)⟩
 have d : decide (b ≤ a) = false := decide_eq_false c
 clear c
 obtain rfl := Option.some.inj H
 go_enter Tryz.func78, Tryz.ntmps78
 go_wp2
 go_ret
 exact ⟨by first | rfl | (simp; done) | (simp [*]; done), by repeat (first | exact Drawn0.refl _ | apply Drawn0.step)⟩
def spec_NameOk.l0 : Nat → ByteArray → Int → Option (Bool)
 | 0, _, _ => none
 | k + 1, x0, x3 => if x3 < (x0.size : Int) then (if 0 ≤ x3 then (if (bt x0 x3) < 97 then (some false) else (if (bt x0 x3) > 122 then (some false) else (spec_NameOk.l0 k x0 (wrap64 (x3 + 1))))) else (none)) else ((spec_l1In.f (x0.size : Int) 1 8).bind fun t174 => (some t174))
def spec_NameOk.f (k : Nat) (a0 : ByteArray) : Option (Bool) := spec_NameOk.l0 k a0 0
theorem spec_NameOk.calls (k : Nat) (b : ByteArray) (r : Bool) (w : World) (h : spec_NameOk.f k b = some r) :
  Calls Tryz.prog 153 #[.string b] w fun e w' => e = .returned (.bool r) ∧ Drawn0 w w' := by
 have H : (spec_NameOk.l0 k b 0) = some r := h
 clear h
 have H' := Aside0.mk H
 clear H
 go_enter Tryz.func153, Tryz.ntmps153
 go_wp2
 go_loopg [3] k (fun kq y w' => ∃ (a : Int), y = .int .i64 a ∧ Aside0 (spec_NameOk.l0 kq b a = some r) ∧ Aside0 (kq ≤ k) ∧ Drawn0 w w')
 case atStart => exact ⟨(0), rs_, H', ⟨Nat.le_refl _⟩, by repeat (first | exact Drawn0.refl _ | apply Drawn0.step)⟩
 case round =>
  clear H'
  obtain ⟨a, rfl, u, g, ⟨m1, rfl⟩⟩ := hrel
  cases gk with
  | zero => exact absurd u.out (by simp [spec_NameOk.l0])
  | succ z =>
   have H := u.out
   clear u
   simp only [spec_NameOk.l0] at H
   replace H := ie_ H; rcases H with ⟨i, H⟩ | ⟨i, H⟩
   ·
    have j := decide_eq_true i
    clear i
    replace H := id_ H; obtain ⟨x, H⟩ := H
    replace H := ie_ H; rcases H with ⟨l, H⟩ | ⟨l, H⟩
    ·
     have m := decide_eq_true l
     clear l
     obtain rfl := Option.some.inj H
     obtain ⟨c, d⟩ : 0 ≤ (a : Int) ∧ a < (b.size : Int) := pq_
     have n := bt_at b a
     replace c := eq_true c; replace d := eq_true d
     go_wp2
     go_ret
     exact ⟨by first | rfl | (simp; done) | (simp [*]; done), by repeat (first | exact Drawn0.refl _ | apply Drawn0.step)⟩
    have m : decide ((bt b a) < 97) = false := decide_eq_false l
    clear l
    replace H := ie_ H; rcases H with ⟨o, H⟩ | ⟨o, H⟩
    ·
     have p : decide (122 < (bt b a)) = true := decide_eq_true o
     clear o
     obtain rfl := Option.some.inj H
     obtain ⟨c, d⟩ : 0 ≤ (a : Int) ∧ a < (b.size : Int) := pq_
     have n := bt_at b a
     replace c := eq_true c; replace d := eq_true d
     obtain ⟨q, s⟩ : 0 ≤ (a : Int) ∧ a < (b.size : Int) := pq_
     have v := bt_at b a
     replace q := eq_true q; replace s := eq_true s
     go_wp2
     go_ret
     exact ⟨by first | rfl | (simp; done) | (simp [*]; done), by repeat (first | exact Drawn0.refl _ | apply Drawn0.step)⟩
    have p : decide (122 < (bt b a)) = false := decide_eq_false o
    clear o
    have H' := Aside0.mk H
    clear H
    obtain ⟨c, d⟩ : 0 ≤ (a : Int) ∧ a < (b.size : Int) := pq_
    have n := bt_at b a
    replace c := eq_true c; replace d := eq_true d
    obtain ⟨q, s⟩ : 0 ≤ (a : Int) ∧ a < (b.size : Int) := pq_
    have v := bt_at b a
    replace q := eq_true q; replace s := eq_true s
    go_wp2
    go_roundg z
    case measure => have := g.out; omega
    case rel => exact ⟨(wrap64 (a + 1)), rs_, H', ⟨by have := g.out; omega⟩, by repeat (first | exact Drawn0.refl _ | apply Drawn0.step)⟩
   have j : decide (a < (b.size : Int)) = false := decide_eq_false i
   clear i
   replace H := bi_ H; obtain ⟨t, A, H⟩ := H
   obtain rfl := Option.some.inj H
   go_wp2_with (first | ((with_reducible refine gate_callee (f := 78) rfl ?_); refine gl_ (some 22) Tryz.func78 #[.int .i64 (b.size : Int), .int .i64 1, .int .i64 8] ?_; (with_reducible refine (spec_l1In.calls (b.size : Int) 1 8 t _ A.out).mono ?_); rintro e w' ⟨rfl, ⟨B, rfl⟩⟩; refine ⟨_, rfl, ?_⟩))
   go_ret
   exact ⟨by first | rfl | (simp; done) | (simp [*]; done), by repeat (first | exact Drawn0.refl _ | apply Drawn0.step)⟩
def spec_LabelOk.f (k : Nat) (a0_0 : ByteArray) (a0_1 : ByteArray) : Option (Bool) := (spec_NameOk.f k a0_0).bind fun t176 => (if t176 = true then ((spec_PlainOk.f k a0_1).bind fun t177 => (some t177)) else (some false))
theorem spec_LabelOk.calls (k : Nat) (a : ByteArray) (b : ByteArray) (r : Bool) (w : World) (h : spec_LabelOk.f k a b = some r) :
  Calls Tryz.prog 136 #[.agg #[.string a, .string b]] w fun e w' => e = .returned (.bool r) ∧ Below w.heap.size w w' := by
 have hu99 := Tryz.underlying99
 have l := Aside0.mk (Below.refl w.heap.size w)
 have H : ((spec_NameOk.f k a).bind fun d => (if d = true then ((spec_PlainOk.f k b).bind fun c => (some c)) else (some false))) = some r := h
 clear h
 replace H := bi_ H; obtain ⟨d, o, H⟩ := H
 have AHz_ := Aside0.mk H
 clear H
 go_enter Tryz.func136, Tryz.ntmps136
 go_wp2_with (first | (((with_reducible refine gd_ 1 rfl ?_); refine bv_ 1 #[.string a, .string b] 99 ?_; intro m hg x g hb; have i := Aside0.mk (g); have j := gq_ hg l; replace l := st_ l hb; have n := Ge_.mk j.out; clear hb g hg; obtain ⟨p, q, s, t⟩ := bc2_ i.out); refine Aside0.out ?_))
 have H := AHz_.out
 clear AHz_
 replace H := ib_ H; rcases H with ⟨rfl, H⟩ | ⟨rfl, H⟩
 ·
  replace H := bi_ H; obtain ⟨c, v, H⟩ := H
  obtain rfl := Option.some.inj H
  refine ⟨?_⟩
  go_wp2_with (first | ((with_reducible refine gate_callee (f := 153) rfl ?_); refine gl_ (some 5) Tryz.func153 #[.string a] ?_; (with_reducible refine (spec_NameOk.calls k a true _ o.out).mono ?_); rintro e w' ⟨rfl, ⟨u, rfl⟩⟩; refine ⟨_, rfl, ?_⟩) | (go_at_call 122; (with_reducible refine (spec_PlainOk.calls k b c _ v.out).mono ?_); rintro e w' ⟨rfl, ⟨u, rfl⟩⟩))
  go_ret
  exact an_ (hs_ l.out)
 obtain rfl := Option.some.inj H
 refine ⟨?_⟩
 go_wp2_with (first | ((with_reducible refine gate_callee (f := 153) rfl ?_); refine gl_ (some 5) Tryz.func153 #[.string a] ?_; (with_reducible refine (spec_NameOk.calls k a false _ o.out).mono ?_); rintro e w' ⟨rfl, ⟨u, rfl⟩⟩; refine ⟨_, rfl, ?_⟩))
 go_ret
 exact an_ (hs_ l.out)
end Go.Proofs.YtanfohlpkppeiaaGreat.Print
end
