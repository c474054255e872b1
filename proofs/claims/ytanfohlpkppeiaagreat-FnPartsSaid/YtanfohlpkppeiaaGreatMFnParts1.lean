import Derived.Test.YtanfohlpkppeiaaGreatProg
import Derived.Below
import Derived.Deep.Draws
import Derived.Deep.AppendLies
import Derived.Maps.AppendAt
import Derived.OwnWalk
import Derived.Laws.BytesArg
import Derived.Laws.MakeOwn
import Derived.Laws.OwnMore
import Derived.Deep.OwnRows
import Derived.Tactics
import Derived.Lib.ConvBytes
import Derived.Laws.Slices
import Derived.WalkKit
import Derived.KernelRfl
import Derived.RowKit3
import Derived.Deep.LoopGhost
import Derived.Deep.QuietTactic
import Derived.BigQuiet
import Derived.WideLaws
import Derived.Deep.DeepCutAuto
import Derived.Deep.CutBlock
import Derived.Deep.RegionHeld3
import Derived.Laws.Rows
import Derived.Lib.AppendStr
import Derived.ArgAppend
import Derived.Laws.IdiomCopy
import Derived.OrdersHeld
import Derived.Laws.BitsLemmas
import Derived.RowKit
import Derived.Test.YtanfohlpkppeiaaGreatMFnParts0
import Derived.Laws.Cover1
section
namespace Go.Proofs.YtanfohlpkppeiaaGreat.Print
open Go.RowKit Go.Proofs.YtanfohlpkppeiaaGreatV.PrintWords Go.Proofs.YtanfohlpkppeiaaGreatV.PrintLast Go.Proofs.YtanfohlpkppeiaaGreatV.PrintMore
attribute [local go_sem] max2_int min2_int max_two min_two max_three min_three max_four min_four
set_option linter.unusedVariables false
set_option linter.unusedSimpArgs false
set_option maxHeartbeats 80000000
set_option maxRecDepth 100000
def errW : Option Int → Value
 | none => .nilIface
 | some c => .iface 0 (.int .i64 c)
theorem errW_none : errW none = .nilIface := rfl
theorem errW_some (c : Int) : errW (some c) = .iface 0 (.int .i64 c) := rfl

theorem info9 : (Tryz.prog.info? 9).map (fun i => (i.zero, i.size, i.bytes)) = some (some (.string ⟨#[]⟩), 1, 16) := by kernel_rfl
theorem info29 : (Tryz.prog.info? 29).map (fun i => (i.zero, i.size, i.bytes)) = some (some (.agg #[(.slice none 0 0), (.int .i64 0), (.int .i64 0), (.string ⟨#[]⟩)]), 4, 56) := by kernel_rfl
theorem info80 : (Tryz.prog.info? 80).map (fun i => (i.zero, i.size, i.bytes)) = some (some (.agg #[(.int .i64 0), (.slice none 0 0)]), 2, 32) := by kernel_rfl
theorem info99 : (Tryz.prog.info? 99).map (fun i => (i.zero, i.size, i.bytes)) = some (some (.agg #[(.string ⟨#[]⟩), (.string ⟨#[]⟩)]), 2, 32) := by kernel_rfl
def Kd.slS {α : Type} (e : Nat) (d : Kd α) : Kd (List α) where
 sz := 1
 E := e :: d.E
 K := (Kd.slice e d).K
 M := fun w base ok xs cs => ∃ v, cs = [v] ∧ Kd.S d e w base ok v xs
 K_len := (Kd.slice e d).K_len
 K_one := (Kd.slice e d).K_one
 K_below := (Kd.slice e d).K_below
 K_of_M := by
  rintro w base ok x cs ⟨v, rfl, h⟩
  obtain ⟨A, c, rfl, hl, hr⟩ := Kd.S_reads h
  exact ⟨A, c, rfl, hl, hr⟩
 M_mono := by
  rintro w base ok ok' x cs hok ⟨v, rfl, h⟩
  exact ⟨v, rfl, Kd.S_mono h hok⟩
 M_bound := by
  rintro w base ok x cs ⟨v, rfl, h⟩
  exact ⟨v, rfl, Kd.S_bound h⟩
 M_move := by
  rintro w w1 base ok x cs hm ⟨v, rfl, h⟩
  exact ⟨v, rfl, Kd.S_move h hm⟩
 M_lower := by
  rintro w base base' ok x cs hb ⟨v, rfl, h⟩
  exact ⟨v, rfl, Kd.S_lower h hb⟩
theorem List.zipIdx_append' {α : Type} (xs ys : List α) : (xs ++ ys).zipIdx = xs.zipIdx ++ ys.zipIdx xs.length := by rw [List.zipIdx_append]; simp
open Classical in
theorem sar_tags {α : Type} {d : Kd α} {e base m c : Nat} {W : World} {ok okp : Nat → Prop} {v : Value} {A : Option Addr} {xs ys : List α} (HO : Kd.S d e W base (fun k => ok k ∧ ¬ okp k) v xs) (HX : Kd.S d e W base okp (.slice A m c) ys) :
  ∃ F : Nat → Nat, (Kd.tag F d).R e W base ok v xs.zipIdx ∧ ReadsRow (fun (p : α × Nat) cs => d.M W base (fun k => okp k ∧ F k = p.2) p.1 cs) d.sz W A m (ys.zipIdx xs.length) ∧ ∀ (p : α × Nat) cs, d.M W base (fun k => okp k ∧ F k = p.2) p.1 cs → (Kd.tag F d).M W base okp p cs := by
 obtain ⟨f, hf⟩ := HO
 obtain ⟨fx, hx⟩ := HX
 refine ⟨fun k => if okp k then fx k + xs.length else f k, Kd.R_mono (Kd.R_tag hf (fun k hk _ => if_neg hk.2)) (fun _ hk => hk.1), ?_, fun p cs h => h⟩
 obtain ⟨A', c', he, hl, hr⟩ := OwnRow.reads hx.2
 injection he with e1 e2 e3
 subst e1
 rw [List.length_zipIdx] at e2
 subst e2
 rw [List.length_zipIdx] at hr
 refine ⟨by rw [List.length_zipIdx], hr.2.1, fun hn => ?_⟩
 obtain ⟨ad, ha, hc⟩ := hr.2.2 hn
 refine ⟨ad, ha, fun j p hj => ?_⟩
 rw [List.getElem?_zipIdx] at hj
 obtain ⟨y, hy, rfl⟩ := Option.map_eq_some_iff.1 hj
 obtain ⟨cs, h1, h2, h3⟩ := hc j (y, j) (Kd.zip_at hy)
 exact ⟨cs, h1, d.M_mono (fun k hk => ⟨hk.1.1, by have h9 : fx k = j := hk.2; show (if okp k then fx k + xs.length else f k) = xs.length + j; rw [if_pos hk.1.1]; omega⟩) h2, h3⟩
theorem Kd.S_append_rows {P : Program} {ops : Array Oper} {rest : List Oper} {o : Oper} {a : Act} {Q : Exit → Act → World → Prop} {α : Type} (d : Kd α) {w0 W : World} (base : Nat) (hgd : o.guard = none) (s x : Operand) (t e : TypeId) (z : Value) (bytes : Nat)
  (ho : o.op = .call { callee := .builtin .append, args := #[s, x], argTypes := #[t, t] })
  (ht : P.underlying t = some (.slice e)) (hinfo : (P.info? e).map (fun i => (i.zero, i.size, i.bytes)) = some (some z, d.sz, bytes)) (hz : z.cells.size = d.sz) (hs0 : 0 < d.sz) (hb0 : 0 < bytes)
  (v : Value) (xs ys : List α) (A : Option Addr) (m c : Nat) (ok okp : Nat → Prop) (hs : a.eval s = v) (hx : a.eval x = .slice A m c)
  (HX : Kd.S d e W base okp (.slice A m c) ys) (hokp : ∀ k, okp k → ok k ∧ some k ≠ v.ownBlock) (hfresh : ∀ k, W.heap.size ≤ k → ok k)
  (HO : Kd.S d e W base (fun k => ok k ∧ ¬ okp k) v xs) (HB : Below base w0 W) (hbase : base ≤ W.heap.size) (hl : (xs.length + ys.length) * bytes ≤ 140737488355328)
  (h : ∀ v1 w1, Kd.S d e w1 base ok v1 (xs ++ ys) → Below base w0 w1 → W.grownBy w1 v.ownBlock → (v1.ownBlock = v.ownBlock ∨ ∃ b, v1.ownBlock = some b ∧ W.heap.size ≤ b) → wpList P ops Q rest (a.put o.dst v1) w1) :
  wpList P ops Q (o :: rest) a W := by
 obtain ⟨F, hR, hX, hM⟩ := sar_tags HO HX
 have hm : ys.length = m := (Kd.S_reads' HX).1.symm
 refine Kd.R_append_rows (Kd.tag F d) base hgd s x t e z bytes ho ht hinfo hz hs0 hb0 v xs.zipIdx (ys.zipIdx xs.length) A m c ok okp hs hx hR hX hM hokp hfresh HB hbase (by rw [List.length_zipIdx, ← hm]; exact hl) ?_
 intro v1 w1 hr hb hg hat
 rw [← List.zipIdx_append' xs ys] at hr
 exact h v1 w1 ⟨F, hr⟩ hb hg hat
theorem Kd.S_times {α : Type} {d : Kd α} {e base : Nat} {W : World} {ok oku : Nat → Prop} {v u : Value} {xs : List α} (h : Kd.S d e W base ok v xs) (hu : ∀ k, u.ownBlock = some k → oku k) (ha : ∀ k, ok k → oku k → False) : Kd.S d e W base (fun k => ok k ∧ some k ≠ u.ownBlock) v xs := Kd.S_mono h (fun k hk => ⟨hk, fun e => ha k hk (hu k e.symm)⟩)
theorem Kd.S_lit2 {P : Program} {ops : Array Oper} {rest : List Oper} {o : Oper} {a : Act} {Q : Exit → Act → World → Prop} {α : Type} (d : Kd α) {W : World} (base e : Nat) (hgd : o.guard = none) {N : Tmp} (hd : o.dst = some N) {x : α} {cs : List Value} {ok okp : Nat → Prop} (okt : Nat → Prop)
  (hrun : (execOp a.eval o).run P W = .ok (.value (.slice (some ⟨W.heap.size, 0, none⟩) [x].length [x].length)) (W.alloc (.cells cs.toArray e)))
  (hp : d.M W base okp x cs) (hokt : ∀ k, okp k → okt k) (hok : ∀ k, okp k → ok k) (hfresh : ok W.heap.size) (hbase : base ≤ W.heap.size)
  (h : ∀ v1 w1, Kd.S d e w1 base (fun k => ok k ∧ (some k = v1.ownBlock ∨ okt k)) v1 [x] → Below W.heap.size W w1 → (∀ k, v1.ownBlock = some k → W.heap.size ≤ k) → wpList P ops Q rest (a.put o.dst v1) w1) :
  wpList P ops Q (o :: rest) a W := by
 refine Kd.S_lits (w0 := W) d base e hgd hd (xs := [x]) (inner := cs) (ok := fun k => ok k ∧ (k = W.heap.size ∨ (okt k ∧ k < W.heap.size))) (fun j k => j = 0 ∧ (okp k ∧ k < W.heap.size)) hrun (by rw [d.K_len (d.K_of_M hp)]; simp) ?_ (fun i j k hi hj => hi.1.trans hj.1.symm) (fun j k hk => ⟨hok k hk.2.1, .inr ⟨hokt k hk.2.1, hk.2.2⟩⟩) ⟨hfresh, .inl rfl⟩ (Below.refl _ _) hbase (by simp) ?_
 ·
  intro j y hj
  cases j with
  | zero =>
   obtain rfl : x = y := by simpa using hj
   rw [Nat.zero_mul, List.drop_zero, List.take_of_length_le (Nat.le_of_eq (d.K_len (d.K_of_M hp)))]; exact d.M_mono (fun k hk => ⟨rfl, hk.1, hk.2.2.1⟩) (d.M_bound hp)
  | succ j => simp at hj
 intro v1 w1 hs _ hg hn
 obtain ⟨b, hb, hl⟩ := hn
 have h3 : b = W.heap.size := by
  rcases ((Kd.S_R hs).1 b hb).2 with h2 | h2
  ·
   exact h2
  exact absurd h2.2 (by omega)
 exact h v1 w1 (Kd.S_mono hs (fun k hk => ⟨hk.1, hk.2.elim (fun he => .inl (by rw [hb, he, h3])) (fun he => .inr he.1)⟩)) (Below.grown (Below.refl _ _) hg (Nat.le_refl _) (fun k e => by cases e)) (fun k e => by rw [hb] at e; cases e; exact hl)
theorem box_stepL {P : Program} {ops : Array Oper} {o : Oper} {a : Act} {Q : Exit → Act → World → Prop} {Kc : Act → World → Prop} {W : World} (hw : Region.wanted o (yielded ops a.tmps) = true) {N : Tmp} (_hd : o.dst = some N) {cs : Array Value} {t : TypeId}
  (hrun : (execOp a.eval o).run P W = .ok (.value (.slice (some ⟨W.heap.size, 0, none⟩) 1 1)) (W.alloc (.cells cs t (0, 0))))
  (h : ∀ g, g = W.heap.size → ∀ w1, w1.heap[g]? = some (.cells cs t (0, 0)) → Below W.heap.size W w1 → Kc (a.put o.dst (.slice (some ⟨g, 0, none⟩) 1 1)) w1) : if Region.wanted o (yielded ops a.tmps) = true then Oper.wp P o a W Kc Q else Kc (a.put o.dst undef) W :=
 event_step hw hrun (h _ rfl _ (blk_new W _) (ba_ (Below.refl _ _) _))
theorem Kd.reads1 {α : Type} {d : Kd α} {e base : Nat} {W : World} {p : α} {n g : Nat} {cs : List Value} {okp : Nat → Prop} {f : Nat → Nat} (hbx : W.heap[g]? = some (.cells cs.toArray e (0, 0))) (hp : d.M W base okp p cs) (hf : ∀ k, okp k → f k = n) :
  ReadsRow (fun (q : α × Nat) cs => d.M W base (fun k => okp k ∧ f k = q.2) q.1 cs) d.sz W (some ⟨g, 0, none⟩) 1 [(p, n)] := by
 refine ⟨rfl, by decide, fun _ => ⟨_, rfl, fun j q hj => ?_⟩⟩
 cases j with
 | zero =>
  obtain rfl : (p, n) = q := by simpa using hj
  refine ⟨cs, d.K_len (d.K_of_M hp), d.M_mono (fun k hk => ⟨hk, hf k hk⟩) hp, fun i u hu => ?_⟩
  rw [Nat.zero_mul, Nat.zero_add]
  rw [show (⟨g, 0, none⟩ : Addr).add i = ⟨g, i, none⟩ by unfold Addr.add; split <;> simp_all, blk_cell hbx]
  simpa using hu
 | succ j => simp at hj
theorem Kd.S_append_box_step {P : Program} {ops : Array Oper} {o : Oper} {a : Act} {Q : Exit → Act → World → Prop} {Kc : Act → World → Prop} {α : Type} (d : Kd α) {w0 W : World} (base : Nat) (hw : Region.wanted o (yielded ops a.tmps) = true) (s x : Operand) (t e : TypeId) (z : Value) (bytes : Nat)
  (ho : o.op = .call { callee := .builtin .append, args := #[s, x], argTypes := #[t, t] })
  (ht : P.underlying t = some (.slice e)) (hinfo : (P.info? e).map (fun i => (i.zero, i.size, i.bytes)) = some (some z, d.sz, bytes)) (hz : z.cells.size = d.sz) (hs0 : 0 < d.sz) (hb0 : 0 < bytes)
  (v : Value) (xs : List α) (p : α) (cs : List Value) (ok okp : Nat → Prop) (g : Nat) (hbx : W.heap[g]? = some (.cells cs.toArray e (0, 0))) (hs : a.eval s = v) (hx : a.eval x = .slice (some ⟨g, 0, none⟩) 1 1) (hp : d.M W base okp p cs) (hokp : ∀ k, okp k → ok k ∧ some k ≠ v.ownBlock) (hfresh : ∀ k, W.heap.size ≤ k → ok k)
  (HO : Kd.S d e W base (fun k => ok k ∧ ¬ okp k) v xs) (HB : Below base w0 W) (hbase : base ≤ W.heap.size) (hl : (xs.length + 1) * bytes ≤ 140737488355328)
  (h : ∀ v1 w1, Kd.S d e w1 base ok v1 (xs ++ [p]) → Below base w0 w1 → W.grownBy w1 v.ownBlock → (v1.ownBlock = v.ownBlock ∨ ∃ b, v1.ownBlock = some b ∧ W.heap.size ≤ b) → Kc (a.put o.dst v1) w1) :
  if Region.wanted o (yielded ops a.tmps) = true then Oper.wp P o a W Kc Q else Kc (a.put o.dst undef) W := by
 obtain ⟨f, hf, hR⟩ := Kd.S_tag HO xs.length okp (fun _ hk h2 => h2.2 hk)
 refine Kd.R_append_rows_step (Kd.tag f d) base hw s x t e z bytes ho ht hinfo hz hs0 hb0 v xs.zipIdx [(p, xs.length)] (some ⟨g, 0, none⟩) 1 1 ok okp hs hx (Kd.R_mono hR (fun _ hk => hk.1)) (Kd.reads1 hbx hp hf) (fun _ _ h => h) hokp hfresh HB hbase (by rw [List.length_zipIdx]; exact hl) ?_
 intro v1 w1 hr hb hg hat
 rw [show xs.zipIdx ++ [(p, xs.length)] = (xs ++ [p]).zipIdx by rw [List.zipIdx_append']; rfl] at hr
 exact h v1 w1 ⟨f, hr⟩ hb hg hat
def Kd.opt {α : Type} (d : Kd α) : Kd (Option α) where
 sz := d.sz
 E := d.E
 K := fun w x cs => match x with | none => cs.length = d.sz ∧ ∀ u ∈ cs, u.oneCell' = true | some y => d.K w y cs
 M := fun w base ok x cs => match x with | none => cs.length = d.sz ∧ ∀ u ∈ cs, u.oneCell' = true | some y => d.M w base ok y cs
 K_len := by intro w x cs h; cases x with | none => exact h.1 | some y => exact d.K_len h
 K_one := by intro w x cs h; cases x with | none => exact h.2 | some y => exact d.K_one h
 K_below := by intro w w1 x cs hb h; cases x with | none => exact h | some y => exact d.K_below hb h
 K_of_M := by intro w base ok x cs h; cases x with | none => exact h | some y => exact d.K_of_M h
 M_mono := by intro w base ok ok' x cs hok h; cases x with | none => exact h | some y => exact d.M_mono hok h
 M_bound := by intro w base ok x cs h; cases x with | none => exact h | some y => exact d.M_bound h
 M_move := by intro w w1 base ok x cs hm h; cases x with | none => exact h | some y => exact d.M_move hm h
 M_lower := by intro w base base' ok x cs hb h; cases x with | none => exact h | some y => exact d.M_lower hb h
abbrev Kd.gap {α : Type} (m : Nat) (xs : List α) : List (Option α) := List.replicate m none ++ (xs.drop m).map some
theorem Kd.gap_length {α : Type} {m : Nat} {xs : List α} (hm : m ≤ xs.length) : (Kd.gap m xs).length = xs.length := by simp only [Kd.gap, List.length_append, List.length_replicate, List.length_map, List.length_drop]; omega
theorem Kd.gap_at {α : Type} {m j : Nat} {xs : List α} {p : Option α} (hj : (Kd.gap m xs)[j]? = some p) : (j < m ∧ p = none) ∨ ∃ y, m ≤ j ∧ xs[j]? = some y ∧ p = some y := by
 rcases Nat.lt_or_ge j m with h | h
 ·
  rw [Kd.gap, List.getElem?_append_left (by simpa using h), List.getElem?_replicate, if_pos h] at hj
  exact .inl ⟨h, (Option.some.inj hj).symm⟩
 rw [Kd.gap, List.getElem?_append_right (by simpa using h), List.length_replicate, List.getElem?_map, List.getElem?_drop, show m + (j - m) = j by omega] at hj
 obtain ⟨y, hy, rfl⟩ := Option.map_eq_some_iff.1 hj
 exact .inr ⟨y, h, hy, rfl⟩
theorem Kd.own_len {A : Option Addr} {n m c c' : Nat} : (Value.slice A n c).ownBlock = (Value.slice A m c').ownBlock := by cases A <;> rfl
theorem Kd.S_split {α : Type} {d : Kd α} {e base n c : Nat} {W : World} {ok : Nat → Prop} {A : Option Addr} {xs : List α} (h : Kd.S d e W base ok (.slice A n c) xs) (m : Nat) (hm : m ≤ xs.length) :
  ∃ G : Nat → Prop, Kd.S (Kd.opt d) e W base (fun k => ok k ∧ G k) (.slice A n c) (Kd.gap m xs) ∧ Kd.S d e W base (fun k => ok k ∧ (¬ G k ∨ some k = (Value.slice A m c).ownBlock)) (.slice A m c) (xs.take m) ∧ ∀ k, G k → ok k := by
 obtain ⟨f, h⟩ := h
 refine ⟨fun k => ok k ∧ (m ≤ f k ∨ some k = (Value.slice A n c).ownBlock), ⟨f, ?_⟩, ⟨f, ?_⟩, fun _ hk => hk.1⟩
 ·
  obtain ⟨h0, inner, ho, hr⟩ := h
  rw [List.length_zipIdx] at ho
  refine ⟨fun k hk => ⟨h0 k hk, h0 k hk, .inr hk.symm⟩, inner, ?_, ?_, ?_⟩
  ·
   rw [List.length_zipIdx, Kd.gap_length hm]; exact ho
  ·
   have := hr.1; rw [List.length_zipIdx] at this ⊢; rw [Kd.gap_length hm]; exact this
  intro j p hj
  rw [List.getElem?_zipIdx, Nat.zero_add] at hj
  obtain ⟨y, hy, rfl⟩ := Option.map_eq_some_iff.1 hj
  rcases Kd.gap_at hy with ⟨hlt, rfl⟩ | ⟨z, hge, hz, rfl⟩
  ·
   have hl : j < xs.length := by omega
   have h2 := d.K_of_M (hr.2 j (xs[j], j) (Kd.zip_at (List.getElem?_eq_getElem hl)))
   exact ⟨d.K_len h2, d.K_one h2⟩
  exact d.M_mono (fun k hk => ⟨⟨⟨hk.1.1, hk.1.1, .inl (by have h9 : f k = j := hk.2; omega)⟩, hk.1.2⟩, hk.2⟩) (hr.2 j (z, j) (Kd.zip_at hz))
 have h2 := Kd.R_take h (m := m) (by rw [List.length_zipIdx]; exact hm)
 have he : (xs.take m).zipIdx = xs.zipIdx.take m := by
  apply List.ext_getElem?
  intro j
  simp only [List.getElem?_zipIdx, List.getElem?_take, Nat.zero_add]
  split <;> simp
 rw [← he] at h2
 obtain ⟨h0, inner, ho, hr⟩ := h2
 refine ⟨fun k hk => ⟨h0 k hk, .inr hk.symm⟩, inner, ho, hr.1, fun j p hj => ?_⟩
 have hj2 := hj
 rw [List.getElem?_zipIdx, Nat.zero_add] at hj2
 obtain ⟨y, hy, rfl⟩ := Option.map_eq_some_iff.1 hj2
 have hlt : j < m := by have := (List.getElem?_eq_some_iff.1 hy).1; rw [List.length_take] at this; omega
 refine d.M_mono (fun k hk => ?_) (hr.2 j (y, j) hj)
 have h9 : f k = j := hk.2
 have h8 := hk.1.2
 refine ⟨⟨⟨hk.1.1, .inl (fun hg => ?_)⟩, h8⟩, hk.2⟩
 rcases hg.2 with hg | hg
 ·
  omega
 refine h8 ?_
 cases A with
 | none => simp [Value.ownBlock] at hg
 | some a => simpa [Value.ownBlock] using hg
theorem sar_tags' {α : Type} {d : Kd α} {e base m c : Nat} {W : World} {ok okx : Nat → Prop} {v : Value} {A : Option Addr} {xs ys : List α} (HO : Kd.S d e W base (fun k => ok k ∧ ¬ (okx k ∧ some k ≠ (Value.slice A m c).ownBlock)) v xs) (HX : Kd.S d e W base okx (.slice A m c) ys) :
  ∃ F : Nat → Nat, (Kd.tag F d).R e W base ok v xs.zipIdx ∧ ReadsRow (fun (p : α × Nat) cs => d.M W base (fun k => (okx k ∧ some k ≠ (Value.slice A m c).ownBlock) ∧ F k = p.2) p.1 cs) d.sz W A m (ys.zipIdx xs.length) := by
 classical
 obtain ⟨f, hf⟩ := HO
 obtain ⟨fx, hx⟩ := HX
 refine ⟨fun k => if okx k ∧ some k ≠ (Value.slice A m c).ownBlock then fx k + xs.length else f k, Kd.R_mono (Kd.R_tag hf (fun k hk _ => if_neg hk.2)) (fun _ hk => hk.1), ?_⟩
 obtain ⟨A', c', he, hl, hr⟩ := OwnRow.reads hx.2
 injection he with e1 e2 e3
 subst e1
 rw [List.length_zipIdx] at e2
 subst e2
 rw [List.length_zipIdx] at hr
 refine ⟨by rw [List.length_zipIdx], hr.2.1, fun hn => ?_⟩
 obtain ⟨ad, ha, hc⟩ := hr.2.2 hn
 refine ⟨ad, ha, fun j p hj => ?_⟩
 rw [List.getElem?_zipIdx] at hj
 obtain ⟨y, hy, rfl⟩ := Option.map_eq_some_iff.1 hj
 obtain ⟨cs, h1, h2, h3⟩ := hc j (y, j) (Kd.zip_at hy)
 refine ⟨cs, h1, d.M_mono (fun k hk => ?_) h2, h3⟩
 have h9 : fx k = j := hk.2
 refine ⟨hk.1, ?_⟩
 show (if okx k ∧ some k ≠ (Value.slice A ys.length c).ownBlock then fx k + xs.length else f k) = xs.length + j
 rw [if_pos hk.1]; omega
theorem rest_tags {α : Type} {d : Kd α} {e base m n c : Nat} {W : World} {ok okx : Nat → Prop} {v : Value} {A : Option Addr} {zs xs : List α} (hm : m ≤ xs.length) (HO : Kd.S d e W base (fun k => ok k ∧ ¬ (okx k ∧ some k ≠ (Value.slice A n c).ownBlock)) v zs) (HX : Kd.S (Kd.opt d) e W base okx (.slice A n c) (Kd.gap m xs)) :
  ∃ F : Nat → Nat, (Kd.tag F d).R e W base ok v zs.zipIdx ∧ ReadsRow (fun (p : α × Nat) cs => d.M W base (fun k => (okx k ∧ some k ≠ (Value.slice A n c).ownBlock) ∧ F k = p.2) p.1 cs) d.sz W (if c = m then A else A.map (·.add (m * d.sz))) (xs.drop m).length ((xs.drop m).zipIdx zs.length) := by
 classical
 obtain ⟨f, hf⟩ := HO
 obtain ⟨fx, hx⟩ := HX
 refine ⟨fun k => if okx k ∧ some k ≠ (Value.slice A n c).ownBlock then fx k - m + zs.length else f k, Kd.R_mono (Kd.R_tag hf (fun k hk _ => if_neg hk.2)) (fun _ hk => hk.1), ?_⟩
 obtain ⟨A', c', he, hl, hr⟩ := OwnRow.reads hx.2
 injection he with e1 e2 e3
 subst e1
 rw [List.length_zipIdx, Kd.gap_length hm] at e2
 subst e3
 rw [List.length_zipIdx, Kd.gap_length hm] at hl hr
 have hd : (xs.drop m).length = xs.length - m := List.length_drop
 refine ⟨by rw [List.length_zipIdx], by have := hr.2.1; omega, fun hn => ?_⟩
 obtain ⟨ad, ha, hc⟩ := hr.2.2 (by omega)
 subst ha
 rw [if_neg (by omega)]
 refine ⟨ad.add (m * d.sz), rfl, fun j p hj => ?_⟩
 rw [List.getElem?_zipIdx] at hj
 obtain ⟨y, hy, rfl⟩ := Option.map_eq_some_iff.1 hj
 have hy0 := hy
 rw [List.getElem?_drop] at hy
 have hg : (Kd.gap m xs)[m + j]? = some (some y) := by
  rw [Kd.gap, List.getElem?_append_right (by simp), List.length_replicate, List.getElem?_map, show m + j - m = j by omega, hy0]; rfl
 obtain ⟨cs, h1, h2, h3⟩ := hc (m + j) (some y, m + j) (Kd.zip_at hg)
 refine ⟨cs, h1, d.M_mono (fun k hk => ?_) h2, fun i u hu => ?_⟩
 ·
  have h9 : fx k = m + j := hk.2
  refine ⟨hk.1, ?_⟩
  show (if okx k ∧ some k ≠ (Value.slice (some ad) n c).ownBlock then fx k - m + zs.length else f k) = zs.length + j
  rw [if_pos hk.1]; omega
 rw [add_add, show m * d.sz + (j * d.sz + i) = (m + j) * d.sz + i by rw [Nat.add_mul]; omega]
 exact h3 i u hu
theorem Kd.S_append_part_step {P : Program} {ops : Array Oper} {o : Oper} {a : Act} {Q : Exit → Act → World → Prop} {Kc : Act → World → Prop} {α : Type} (d : Kd α) {w0 W : World} (base : Nat) (hw : Region.wanted o (yielded ops a.tmps) = true) (s x : Operand) (t e : TypeId) (z : Value) (bytes : Nat)
  (ho : o.op = .call { callee := .builtin .append, args := #[s, x], argTypes := #[t, t] })
  (ht : P.underlying t = some (.slice e)) (hinfo : (P.info? e).map (fun i => (i.zero, i.size, i.bytes)) = some (some z, d.sz, bytes)) (hz : z.cells.size = d.sz) (hs0 : 0 < d.sz) (hb0 : 0 < bytes)
  (v : Value) (xs ys : List α) (A : Option Addr) (m c : Nat) (ok okx : Nat → Prop) (hs : a.eval s = v) (hx : a.eval x = .slice A m c) (HX : Kd.S d e W base okx (.slice A m c) ys) (hokp : ∀ k, okx k → some k ≠ (Value.slice A m c).ownBlock → ok k ∧ some k ≠ v.ownBlock) (hfresh : ∀ k, W.heap.size ≤ k → ok k)
  (HO : Kd.S d e W base (fun k => ok k ∧ ¬ (okx k ∧ some k ≠ (Value.slice A m c).ownBlock)) v xs) (HB : Below base w0 W) (hbase : base ≤ W.heap.size) (hl : (xs.length + ys.length) * bytes ≤ 140737488355328)
  (h : ∀ v1 w1, Kd.S d e w1 base ok v1 (xs ++ ys) → Below base w0 w1 → W.grownBy w1 v.ownBlock → (v1.ownBlock = v.ownBlock ∨ ∃ b, v1.ownBlock = some b ∧ W.heap.size ≤ b) → Kc (a.put o.dst v1) w1) :
  if Region.wanted o (yielded ops a.tmps) = true then Oper.wp P o a W Kc Q else Kc (a.put o.dst undef) W := by
 obtain ⟨F, hR, hX⟩ := sar_tags' HO HX
 have hm : ys.length = m := (Kd.S_reads' HX).1.symm
 refine Kd.R_append_rows_step (Kd.tag F d) base hw s x t e z bytes ho ht hinfo hz hs0 hb0 v xs.zipIdx (ys.zipIdx xs.length) A m c ok (fun k => okx k ∧ some k ≠ (Value.slice A m c).ownBlock) hs hx hR hX (fun _ _ h => h) (fun k hk => hokp k hk.1 hk.2) hfresh HB hbase (by rw [List.length_zipIdx]; rw [← hm]; exact hl) ?_
 intro v1 w1 hr hb hg hat
 rw [← List.zipIdx_append' xs ys] at hr
 exact h v1 w1 ⟨F, hr⟩ hb hg hat
theorem Kd.S_append_rest_step {P : Program} {ops : Array Oper} {o : Oper} {a : Act} {Q : Exit → Act → World → Prop} {Kc : Act → World → Prop} {α : Type} (d : Kd α) {w0 W : World} (base : Nat) (hw : Region.wanted o (yielded ops a.tmps) = true) (s x : Operand) (t e : TypeId) (z : Value) (bytes : Nat)
  (ho : o.op = .call { callee := .builtin .append, args := #[s, x], argTypes := #[t, t] })
  (ht : P.underlying t = some (.slice e)) (hinfo : (P.info? e).map (fun i => (i.zero, i.size, i.bytes)) = some (some z, d.sz, bytes)) (hz : z.cells.size = d.sz) (hs0 : 0 < d.sz) (hb0 : 0 < bytes)
  (v : Value) (xs ys : List α) (A : Option Addr) (n c m c1 : Nat) (ok okx : Nat → Prop) (hs : a.eval s = v) (hm : m ≤ ys.length) (hx : a.eval x = .slice (if c = m then A else A.map (·.add (m * d.sz))) (ys.drop m).length c1) (HX : Kd.S (Kd.opt d) e W base okx (.slice A n c) (Kd.gap m ys)) (hokp : ∀ k, okx k → some k ≠ (Value.slice A n c).ownBlock → ok k ∧ some k ≠ v.ownBlock) (hfresh : ∀ k, W.heap.size ≤ k → ok k)
  (HO : Kd.S d e W base (fun k => ok k ∧ ¬ (okx k ∧ some k ≠ (Value.slice A n c).ownBlock)) v xs) (HB : Below base w0 W) (hbase : base ≤ W.heap.size) (hl : (xs.length + (ys.drop m).length) * bytes ≤ 140737488355328)
  (h : ∀ v1 w1, Kd.S d e w1 base ok v1 (xs ++ (ys.drop m)) → Below base w0 w1 → W.grownBy w1 v.ownBlock → (v1.ownBlock = v.ownBlock ∨ ∃ b, v1.ownBlock = some b ∧ W.heap.size ≤ b) → Kc (a.put o.dst v1) w1) :
  if Region.wanted o (yielded ops a.tmps) = true then Oper.wp P o a W Kc Q else Kc (a.put o.dst undef) W := by
 obtain ⟨F, hR, hX⟩ := rest_tags hm HO HX
 refine Kd.R_append_rows_step (Kd.tag F d) base hw s x t e z bytes ho ht hinfo hz hs0 hb0 v xs.zipIdx ((ys.drop m).zipIdx xs.length) _ _ c1 ok (fun k => okx k ∧ some k ≠ (Value.slice A n c).ownBlock) hs hx hR hX (fun _ _ h => h) (fun k hk => hokp k hk.1 hk.2) hfresh HB hbase (by rw [List.length_zipIdx]; exact hl) ?_
 intro v1 w1 hr hb hg hat
 rw [← List.zipIdx_append' xs (ys.drop m)] at hr
 exact h v1 w1 ⟨F, hr⟩ hb hg hat
theorem Kd.S_ngz {α : Type} {d : Kd α} {e : Nat} {w W : World} {ok G : Nat → Prop} {g : Nat} {v : Value} {xs : List α} (hG : ∀ k, G k → k < g) (hg : g < W.heap.size) (h : Kd.S d e w W.heap.size ok v xs) : Kd.S d e w W.heap.size (fun k => ok k ∧ ¬ G k) v xs := Kd.S_mono (Kd.S_bound h) (fun k hk => ⟨hk.1, fun h2 => by have := hG k h2; have := hk.2.1; omega⟩)
/-! #### struct type 99 -/
structure S99 where
 f0 : ByteArray
 f1 : ByteArray
def z99 : S99 := ⟨(⟨#[]⟩ : ByteArray), (⟨#[]⟩ : ByteArray)⟩
def k99 : Kd S99 := Kd.iso (Kd.pair Kd.string Kd.string) (fun x : S99 => (x.f0, x.f1))
theorem k99_open {w : World} {x : S99} {cs : List Value} (h : k99.K w x cs) : cs = [.string x.f0, .string x.f1] := by
 obtain ⟨_, _, rfl, rfl, rfl⟩ := h
 exact rfl
theorem k99_openM {w : World} {base : Nat} {ok : Nat → Prop} {x : S99} {cs : List Value} (h : k99.M w base ok x cs) : cs = [.string x.f0, .string x.f1] := by
 obtain ⟨_, _, rfl, rfl, rfl⟩ := h
 exact rfl
theorem k99_mkM (w : World) (base : Nat) (ok : Nat → Prop) (x : S99)  : k99.M w base ok x [.string x.f0, .string x.f1] := ⟨[.string x.f0], [.string x.f1], rfl, rfl, rfl⟩
def rd_T99 (xs : List S99) (i : Int) : S99 := xs.getD i.toNat z99
theorem at_T99 {w : World} {A : Option Addr} {n : Nat} {xs : List S99} (h : Kd.C k99 w A n xs) (i : Int) (h0 : 0 ≤ i) (h1 : i < n) : ∃ ad , A = some ad ∧ w.cell? (ad.add (i.toNat * 2)) = some (.string (rd_T99 xs i).f0) ∧ w.cell? ⟨(ad.add (i.toNat * 2)).block, (ad.add (i.toNat * 2)).off + 1, none⟩ = some (.string (rd_T99 xs i).f1) := by
 obtain ⟨ad, c, e, _, hK, hc0⟩ := Kd.C_get h z99 i h0 h1
 have hc : ∀ j u, c[j]? = some u → w.cell? (ad.add (i.toNat * 2 + j)) = some u := hc0
 obtain rfl := k99_open hK
 exact ⟨ad, e, hc 0 _ rfl, by rw [← add_field _ _ 1 (by omega)]; exact hc 1 _ rfl⟩
theorem au_T99 {w w1 : World} {A : Option Addr} {n : Nat} {xs : List S99} (h : Kd.C k99 w A n xs) (hb : Aside0 (Below w.heap.size w w1)) (i : Int) (h0 : decide (0 ≤ i) = true := by with_reducible assumption) (h1 : decide (i < n) = true := by with_reducible assumption) : ∃ ad, A = some ad ∧ w1.cell? (ad.add (i.toNat * 2)) = some (.string (rd_T99 xs i).f0) ∧ w1.cell? ⟨(ad.add (i.toNat * 2)).block, (ad.add (i.toNat * 2)).off + 1, none⟩ = some (.string (rd_T99 xs i).f1) ∧ (0 ≤ i) = True ∧ (i < n) = True := by
 obtain ⟨ad, e, x0, x1⟩ := at_T99 h i (of_decide_eq_true h0) (of_decide_eq_true h1)
 exact ⟨ad, e, (hb.out.cell (World.block_lt_of_cell? w _ x0)).trans x0, (hb.out.cell (World.block_lt_of_cell? w _ x1)).trans x1, eq_true (of_decide_eq_true h0), eq_true (of_decide_eq_true h1)⟩

def rd_L3 (xs : List (List S99)) (i : Int) : (List S99) := xs.getD i.toNat ([] : List S99)
/-! #### struct type 29 -/
structure S29 where
 f0 : (List S99)
 f1 : Int
 f2 : Int
 f3 : ByteArray
def z29 : S29 := ⟨([] : List S99), (0 : Int), (0 : Int), (⟨#[]⟩ : ByteArray)⟩
def k29 : Kd S29 := Kd.iso (Kd.pair (Kd.slice 99 k99) (Kd.pair (Kd.int .i64) (Kd.pair (Kd.int .i64) Kd.string))) (fun x : S29 => (x.f0, x.f1, x.f2, x.f3))
theorem k29_open {w : World} {x : S29} {cs : List Value} (h : k29.K w x cs) : ∃ A0 c0, cs = [.slice A0 x.f0.length c0, .int .i64 x.f1, .int .i64 x.f2, .string x.f3] ∧ x.f0.length ≤ c0 ∧ k99.C w A0 x.f0.length x.f0 := by
 obtain ⟨_, _, rfl, ⟨A0, c0, rfl, l0, g0⟩, ⟨_, _, rfl, rfl, ⟨_, _, rfl, rfl, rfl⟩⟩⟩ := h
 exact ⟨A0, c0, rfl, l0, g0⟩
theorem k29_openM {w : World} {base : Nat} {ok : Nat → Prop} {x : S29} {cs : List Value} (h : k29.M w base ok x cs) : ∃ v0, cs = [v0, .int .i64 x.f1, .int .i64 x.f2, .string x.f3] ∧ k99.R 99 w base ok v0 x.f0 := by
 obtain ⟨_, _, rfl, ⟨v0, rfl, g0⟩, ⟨_, _, rfl, rfl, ⟨_, _, rfl, rfl, rfl⟩⟩⟩ := h
 exact ⟨v0, rfl, g0⟩
theorem k29_mkM (w : World) (base : Nat) (ok : Nat → Prop) (x : S29) {v0 : Value} (g0 : k99.R 99 w base ok v0 x.f0) : k29.M w base ok x [v0, .int .i64 x.f1, .int .i64 x.f2, .string x.f3] := ⟨[v0], [.int .i64 x.f1, .int .i64 x.f2, .string x.f3], rfl, ⟨v0, rfl, g0⟩, ⟨[.int .i64 x.f1], [.int .i64 x.f2, .string x.f3], rfl, rfl, ⟨[.int .i64 x.f2], [.string x.f3], rfl, rfl, rfl⟩⟩⟩
def rd_T29 (xs : List S29) (i : Int) : S29 := xs.getD i.toNat z29
theorem at_T29 {w : World} {A : Option Addr} {n : Nat} {xs : List S29} (h : Kd.C k29 w A n xs) (i : Int) (h0 : 0 ≤ i) (h1 : i < n) : ∃ ad A0 c0, A = some ad ∧ w.cell? (ad.add (i.toNat * 4)) = some (.slice A0 (rd_T29 xs i).f0.length c0) ∧ w.cell? ⟨(ad.add (i.toNat * 4)).block, (ad.add (i.toNat * 4)).off + 1, none⟩ = some (.int .i64 (rd_T29 xs i).f1) ∧ w.cell? ⟨(ad.add (i.toNat * 4)).block, (ad.add (i.toNat * 4)).off + 2, none⟩ = some (.int .i64 (rd_T29 xs i).f2) ∧ w.cell? ⟨(ad.add (i.toNat * 4)).block, (ad.add (i.toNat * 4)).off + 3, none⟩ = some (.string (rd_T29 xs i).f3) ∧ (rd_T29 xs i).f0.length ≤ c0 ∧ k99.C w A0 (rd_T29 xs i).f0.length (rd_T29 xs i).f0 := by
 obtain ⟨ad, c, e, _, hK, hc0⟩ := Kd.C_get h z29 i h0 h1
 have hc : ∀ j u, c[j]? = some u → w.cell? (ad.add (i.toNat * 4 + j)) = some u := hc0
 obtain ⟨A0, c0, rfl, l0, g0⟩ := k29_open hK
 exact ⟨ad, A0, c0, e, hc 0 _ rfl, by rw [← add_field _ _ 1 (by omega)]; exact hc 1 _ rfl, by rw [← add_field _ _ 2 (by omega)]; exact hc 2 _ rfl, by rw [← add_field _ _ 3 (by omega)]; exact hc 3 _ rfl, l0, g0⟩
theorem au_T29 {w w1 : World} {A : Option Addr} {n : Nat} {xs : List S29} (h : Kd.C k29 w A n xs) (hb : Aside0 (Below w.heap.size w w1)) (i : Int) (h0 : decide (0 ≤ i) = true := by with_reducible assumption) (h1 : decide (i < n) = true := by with_reducible assumption) : ∃ ad A0 c0, A = some ad ∧ w1.cell? (ad.add (i.toNat * 4)) = some (.slice A0 (rd_T29 xs i).f0.length c0) ∧ w1.cell? ⟨(ad.add (i.toNat * 4)).block, (ad.add (i.toNat * 4)).off + 1, none⟩ = some (.int .i64 (rd_T29 xs i).f1) ∧ w1.cell? ⟨(ad.add (i.toNat * 4)).block, (ad.add (i.toNat * 4)).off + 2, none⟩ = some (.int .i64 (rd_T29 xs i).f2) ∧ w1.cell? ⟨(ad.add (i.toNat * 4)).block, (ad.add (i.toNat * 4)).off + 3, none⟩ = some (.string (rd_T29 xs i).f3) ∧ Aside0 ((rd_T29 xs i).f0.length ≤ c0) ∧ Aside0 (k99.C w A0 (rd_T29 xs i).f0.length (rd_T29 xs i).f0) ∧ (0 ≤ i) = True ∧ (i < n) = True := by
 obtain ⟨ad, A0, c0, e, x0, x1, x2, x3, r0, r1⟩ := at_T29 h i (of_decide_eq_true h0) (of_decide_eq_true h1)
 exact ⟨ad, A0, c0, e, (hb.out.cell (World.block_lt_of_cell? w _ x0)).trans x0, (hb.out.cell (World.block_lt_of_cell? w _ x1)).trans x1, (hb.out.cell (World.block_lt_of_cell? w _ x2)).trans x2, (hb.out.cell (World.block_lt_of_cell? w _ x3)).trans x3, ⟨r0⟩, ⟨r1⟩, eq_true (of_decide_eq_true h0), eq_true (of_decide_eq_true h1)⟩

def rd_L6 (xs : List (List S29)) (i : Int) : (List S29) := xs.getD i.toNat ([] : List S29)
/-! #### struct type 80 -/
structure S80 where
 f0 : Int
 f1 : (List S29)
def z80 : S80 := ⟨(0 : Int), ([] : List S29)⟩
def k80 : Kd S80 := Kd.iso (Kd.pair (Kd.int .i64) (Kd.slS 29 k29)) (fun x : S80 => (x.f0, x.f1))
theorem k80_open {w : World} {x : S80} {cs : List Value} (h : k80.K w x cs) : ∃ A1 c1, cs = [.int .i64 x.f0, .slice A1 x.f1.length c1] ∧ x.f1.length ≤ c1 ∧ k29.C w A1 x.f1.length x.f1 := by
 obtain ⟨_, _, rfl, rfl, ⟨A1, c1, rfl, l1, g1⟩⟩ := h
 exact ⟨A1, c1, rfl, l1, g1⟩
theorem k80_openM {w : World} {base : Nat} {ok : Nat → Prop} {x : S80} {cs : List Value} (h : k80.M w base ok x cs) : ∃ v1, cs = [.int .i64 x.f0, v1] ∧ Kd.S k29 29 w base ok v1 x.f1 := by
 obtain ⟨_, _, rfl, rfl, ⟨v1, rfl, g1⟩⟩ := h
 exact ⟨v1, rfl, g1⟩
theorem k80_mkM (w : World) (base : Nat) (ok : Nat → Prop) (x : S80) {v1 : Value} (g1 : Kd.S k29 29 w base ok v1 x.f1) : k80.M w base ok x [.int .i64 x.f0, v1] := ⟨[.int .i64 x.f0], [v1], rfl, rfl, ⟨v1, rfl, g1⟩⟩
def rd_T80 (xs : List S80) (i : Int) : S80 := xs.getD i.toNat z80
theorem at_T80 {w : World} {A : Option Addr} {n : Nat} {xs : List S80} (h : Kd.C k80 w A n xs) (i : Int) (h0 : 0 ≤ i) (h1 : i < n) : ∃ ad A1 c1, A = some ad ∧ w.cell? (ad.add (i.toNat * 2)) = some (.int .i64 (rd_T80 xs i).f0) ∧ w.cell? ⟨(ad.add (i.toNat * 2)).block, (ad.add (i.toNat * 2)).off + 1, none⟩ = some (.slice A1 (rd_T80 xs i).f1.length c1) ∧ (rd_T80 xs i).f1.length ≤ c1 ∧ k29.C w A1 (rd_T80 xs i).f1.length (rd_T80 xs i).f1 := by
 obtain ⟨ad, c, e, _, hK, hc0⟩ := Kd.C_get h z80 i h0 h1
 have hc : ∀ j u, c[j]? = some u → w.cell? (ad.add (i.toNat * 2 + j)) = some u := hc0
 obtain ⟨A1, c1, rfl, l1, g1⟩ := k80_open hK
 exact ⟨ad, A1, c1, e, hc 0 _ rfl, by rw [← add_field _ _ 1 (by omega)]; exact hc 1 _ rfl, l1, g1⟩
theorem au_T80 {w w1 : World} {A : Option Addr} {n : Nat} {xs : List S80} (h : Kd.C k80 w A n xs) (hb : Aside0 (Below w.heap.size w w1)) (i : Int) (h0 : decide (0 ≤ i) = true := by with_reducible assumption) (h1 : decide (i < n) = true := by with_reducible assumption) : ∃ ad A1 c1, A = some ad ∧ w1.cell? (ad.add (i.toNat * 2)) = some (.int .i64 (rd_T80 xs i).f0) ∧ w1.cell? ⟨(ad.add (i.toNat * 2)).block, (ad.add (i.toNat * 2)).off + 1, none⟩ = some (.slice A1 (rd_T80 xs i).f1.length c1) ∧ Aside0 ((rd_T80 xs i).f1.length ≤ c1) ∧ Aside0 (k29.C w A1 (rd_T80 xs i).f1.length (rd_T80 xs i).f1) ∧ (0 ≤ i) = True ∧ (i < n) = True := by
 obtain ⟨ad, A1, c1, e, x0, x1, r0, r1⟩ := at_T80 h i (of_decide_eq_true h0) (of_decide_eq_true h1)
 exact ⟨ad, A1, c1, e, (hb.out.cell (World.block_lt_of_cell? w _ x0)).trans x0, (hb.out.cell (World.block_lt_of_cell? w _ x1)).trans x1, ⟨r0⟩, ⟨r1⟩, eq_true (of_decide_eq_true h0), eq_true (of_decide_eq_true h1)⟩

def rd_L8 (xs : List (List S80)) (i : Int) : (List S80) := xs.getD i.toNat ([] : List S80)
/-! #### struct type 26 -/
structure S26 where
 f0 : Int
 f1 : Int
 f2 : (List S80)
def z26 : S26 := ⟨(0 : Int), (0 : Int), ([] : List S80)⟩
def k26 : Kd S26 := Kd.iso (Kd.pair (Kd.int .i64) (Kd.pair (Kd.int .i64) (Kd.slS 80 k80))) (fun x : S26 => (x.f0, x.f1, x.f2))
def rd_T26 (xs : List S26) (i : Int) : S26 := xs.getD i.toNat z26
end Go.Proofs.YtanfohlpkppeiaaGreat.Print
end
section
namespace Go.Proofs.YtanfohlpkppeiaaGreat.Print
open Go.RowKit Go.Proofs.YtanfohlpkppeiaaGreatV.PrintWords Go.Proofs.YtanfohlpkppeiaaGreatV.PrintLast Go.Proofs.YtanfohlpkppeiaaGreatV.PrintMore
set_option linter.unusedVariables false
set_option linter.unusedSimpArgs false
namespace Kd
variable {α : Type} {d : Kd α} {e n m cap g base : Nat} {w w1 W : World} {ok : Nat → Prop} {v : Value} {xs : List α}
theorem S_ltz (hz : n = w.heap.size) (h : Kd.S d e w base ok v xs) : Kd.S d e w base (fun k => ok k ∧ k < n) v xs := Kd.S_mono (Kd.S_bound h) (fun k hk => ⟨hk.1, by have := hk.2.2.1; omega⟩)
theorem R_ltz (hz : n = w.heap.size) (h : Kd.R d e w base ok v xs) : Kd.R d e w base (fun k => ok k ∧ k < n) v xs := Kd.R_mono (Kd.R_bound h) (fun k hk => ⟨hk.1, by have := hk.2.2.1; omega⟩)
theorem S_gez (hz : n = W.heap.size) (h : Kd.S d e w W.heap.size ok v xs) : Kd.S d e w W.heap.size (fun k => ok k ∧ n ≤ k) v xs := Kd.S_mono (Kd.S_bound h) (fun k hk => ⟨hk.1, by have := hk.2.1; omega⟩)
theorem R_gez (hz : n = W.heap.size) (h : Kd.R d e w W.heap.size ok v xs) : Kd.R d e w W.heap.size (fun k => ok k ∧ n ≤ k) v xs := Kd.R_mono (Kd.R_bound h) (fun k hk => ⟨hk.1, by have := hk.2.1; omega⟩)
theorem S_name (_h : Kd.S d e w W.heap.size ok v xs) : ∃ n, n = W.heap.size := ⟨_, rfl⟩
theorem R_name (_h : Kd.R d e w W.heap.size ok v xs) : ∃ n, n = W.heap.size := ⟨_, rfl⟩
theorem S_fp (h : Kd.S d e w base ok v xs) : ∃ P : Nat → Prop, Kd.S d e w base P v xs ∧ ∀ k, P k → ok k ∧ base ≤ k ∧ ∃ q, q ∈ e :: d.E ∧ ∃ cells, w.heap[k]? = some (.cells cells q (0, 0)) := ⟨_, Kd.S_bound h, fun _ hk => ⟨hk.1, hk.2.1, hk.2.2.2⟩⟩
theorem R_fp (h : Kd.R d e w base ok v xs) : ∃ P : Nat → Prop, Kd.R d e w base P v xs ∧ ∀ k, P k → ok k ∧ base ≤ k ∧ ∃ q, q ∈ e :: d.E ∧ ∃ cells, w.heap[k]? = some (.cells cells q (0, 0)) := ⟨_, Kd.R_bound h, fun _ hk => ⟨hk.1, hk.2.1, hk.2.2.2⟩⟩
theorem R_fpt (hE : d.E = []) (h : Kd.R d e w base ok v xs) : ∃ P : Nat → Prop, Kd.R d e w base P v xs ∧ ∀ k, P k → (ok k ∧ some k = v.ownBlock) ∧ base ≤ k ∧ ∃ q, q ∈ e :: d.E ∧ ∃ cells, w.heap[k]? = some (.cells cells q (0, 0)) :=
  ⟨_, Kd.R_bound (Kd.R_tight hE h), fun k hk => ⟨⟨h.1 k hk.1.symm, hk.1⟩, hk.2.1, hk.2.2.2⟩⟩
end Kd
theorem no_blk {W : World} {g t : Nat} {cells : Array Value} {E : List Nat} (hb : W.heap[g]? = some (.cells cells t (0, 0))) (ht : ∀ q, q ∈ E → q ≠ t) (h : ∃ q, q ∈ E ∧ ∃ c, W.heap[g]? = some (.cells c q (0, 0))) : False := by
  obtain ⟨q, hq, c, hc⟩ := h
  rw [hc] at hb
  injection hb with hb
  injection hb with _ hb
  exact ht q hq hb
section
variable {α : Type} {d : Kd α} {e n cap g base : Nat} {W : World} {ok : Nat → Prop} {v : Value} {xs : List α} {x : α} {i : Int}
theorem S_begin (h : Kd.S d e W base ok v xs) (z : α) (i : Int) (h0 : 0 ≤ i) (h1 : i < (xs.length : Int)) : Kd.S d e W base ok v (xs.set i.toNat (xs.getD i.toNat z)) := by
  have hi : i.toNat < xs.length := by omega
  rw [List.getD_eq_getElem?_getD, List.getElem?_eq_getElem hi]
  simpa using h
theorem S_hand (h : Kd.S d e W base ok (.slice (some ⟨g, 0, none⟩) n cap) (xs.set i.toNat x)) (h0 : 0 ≤ i) (h1 : i < (xs.length : Int)) :
    ∃ (oki : Nat → Prop) (c : List Value), d.M W base oki x c ∧ (∀ j u, c[j]? = some u → W.cell? ⟨g, i.toNat * d.sz + j, none⟩ = some u) ∧ (∀ j, W.frozen? ⟨g, i.toNat * d.sz + j, none⟩ = false) ∧ (∀ k, oki k → ok k ∧ k ≠ g) ∧
      (∀ w1 x', Kept W w1 oki → d.M w1 base oki x' c → Kd.S d e w1 base ok (.slice (some ⟨g, 0, none⟩) n cap) (xs.set i.toNat x')) ∧
      (∀ u j x', u.oneCell' = true → j + 1 ≤ d.sz → d.M W base oki x' (c.take j ++ [u] ++ c.drop (j + 1)) → Kd.S d e (W.setCells g (i.toNat * d.sz + j) [u]) base ok (.slice (some ⟨g, 0, none⟩) n cap) (xs.set i.toNat x') ∧ W.grownBy (W.setCells g (i.toNat * d.sz + j) [u]) (some g)) := by
  have hn := (Kd.S_reads' h).1
  rw [List.length_set] at hn
  have hi : i.toNat < xs.length := by omega
  obtain ⟨oki, c, hcl, hM, hcc, hfr, hoki, hH⟩ := Kd.S_elem (Kd.S_mono (ok' := fun k => ok k ∧ ¬ False) h (fun k hk => ⟨hk, id⟩)) x i h0 (by omega)
  rw [List.getD_eq_getElem?_getD, List.getElem?_set_self hi, Option.getD_some] at hM
  refine ⟨oki, c, hM, hcc, hfr, fun k hk => ⟨(hoki k hk).1.1, (hoki k hk).2⟩, fun w1 x' hk hM1 => ?_, fun u j x' hu hj hM1 => ?_⟩
  · have h2 := Kd.H_back (Kd.H_step hH (fun k _ hn hlt => hk.2 k hlt hn)) hM1 (fun _ hk => hk)
    rw [List.set_set] at h2
    exact Kd.S_mono h2 (fun k hk => hk.1)
  · obtain ⟨h2, h3⟩ := Kd.S_seg (okg := fun _ => False) hH h0 (by omega) (seg := [u]) (j := j) hj hM1 (fun k hk => .inl hk) (fun _ hk => hk.elim)
    rw [List.set_set] at h2
    exact ⟨h2, h3⟩
end

end Go.Proofs.YtanfohlpkppeiaaGreat.Print
end
section
namespace Go.Proofs.YtanfohlpkppeiaaGreat.Print
open Go.RowKit Go.Proofs.YtanfohlpkppeiaaGreatV.PrintWords Go.Proofs.YtanfohlpkppeiaaGreatV.PrintLast Go.Proofs.YtanfohlpkppeiaaGreatV.PrintMore
attribute [local go_sem] max2_int min2_int max_two min_two max_three min_three max_four min_four
set_option linter.unusedVariables false
set_option linter.unusedSimpArgs false
set_option maxHeartbeats 80000000
set_option maxRecDepth 100000
def laws_big.f (a : List Int) : Option (Bool) := some (decide ((a.length : Int) > 1048576))
theorem laws_big.calls (d : Option Addr) (g : Nat) (a : List Int) (r : Bool) (w : World) (b : Kd.C (Kd.int .u8) w d a.length a) (c : a.length ≤ g) (h : laws_big.f a = some r) :
  Calls Tryz.prog 6 #[.slice d a.length g] w fun e w' => e = .returned (.bool r) ∧ Drawn0 w w' := by
 have i := M_ b
 have j := M_ c
 clear b c
 unfold laws_big.f at h
 have H := h; clear h
 obtain rfl := Option.some.inj H
 go_enter Tryz.func6, Tryz.ntmps6
 go_wp2
 go_ret
 exact ⟨by first | rfl | (simp; done) | (simp [*]; done), by repeat (first | exact Drawn0.refl _ | apply Drawn0.step)⟩
def spec_l4Copy.f (a : List (S99)) (c : Int) (d : Int) (e : ByteArray) : Option ((List (S99)) × Int × Int × ByteArray) := (some (([] : List (S99)) : List (S99))).bind fun b => (if b.length + a.length < 4398046511104 then (some ((b ++ a), c, d, e)) else (none))
theorem spec_l4Copy.calls (o : Option Addr) (q : Nat) (d : List (S99)) (g : Int) (i : Int) (j : ByteArray) (K : List (S99)) (L : Int) (M : Int) (O : ByteArray) (w : World) (r : Kd.C k99 w o d.length d) (s : d.length ≤ q) (h : spec_l4Copy.f d g i j = some (K, L, M, O)) :
  Calls Tryz.prog 63 #[.agg #[.slice o d.length q, .int .i64 g, .int .i64 i, .string j]] w fun e w' => ∃ v0_ : Value, e = .returned (.agg #[v0_, .int .i64 L, .int .i64 M, .string O]) ∧ Kd.R k99 99 w' w.heap.size (fun _ => True) v0_ K ∧ Below w.heap.size w w' := by
 have hu29 := Tryz.underlying29
 have B := M_ r
 have P := M_ s
 clear r s
 have m := M_ (Below.refl w.heap.size w)
 unfold spec_l4Copy.f at h
 have H := h; clear h
 obtain ⟨n, hy_⟩ : ∃ y_ : List (S99), y_ = (([] : List (S99))) := ⟨_, rfl⟩
 replace H : (if n.length + d.length < 4398046511104 then (some ((n ++ d), g, i, j)) else (none)) = some (K, L, M, O) := hm_
 have t := M_ hy_; clear hy_
 replace H := im_ H; obtain ⟨G, H⟩ := H
 obtain ⟨u, hy_⟩ : ∃ y_ : List (S99), y_ = (n ++ d) := ⟨_, rfl⟩
 replace H : (some (u, g, i, j)) = some (K, L, M, O) := hm_
 have D := M_ hy_; clear hy_
 simp only [Option.some.injEq, Prod.mk.injEq] at H
 obtain ⟨rfl, rfl, rfl, rfl⟩ := H
 go_enter Tryz.func63, Tryz.ntmps63
 go_wp2_with (first | ((with_reducible refine gd_ 1 rfl ?_); refine bV_ 1 #[.slice o d.length q, .int .i64 g, .int .i64 i, .string j] 29 ?_; intro E hg w3 a hb; have Q := gq_ hg m; replace m := st_ m hb; clear hb hg) | ((with_reducible refine gd_ 2 rfl ?_); refine bV_ 2 #[.slice none 0 0, .int .i64 0, .int .i64 0, .string (⟨#[]⟩ : ByteArray)] 29 ?_; intro v hg w4 c hb; have S := gq_ hg m; replace m := st_ m hb; obtain ⟨l, F, a⟩ := nb_ a hg hb; clear hb hg) | ((with_reducible refine gd_ 3 rfl ?_); refine Kd.R_lit k99 _ 99 ?hg (N := 3) ?hd (xs := ([] : List (S99))) (inner := []) (ok := fun _ => True) (okp := fun _ => True) ?hr ?hp (fun _ hk => hk) trivial (Below.refl _ _) (Nat.le_refl _) (by simp) ?_; (case hd => rfl); (case hg => rfl); (case hr => first | (go_simp; done) | (go_simp; rfl)); (case hp => exact (Reps.none _ _)); intro I w5 x hb hg_ hnew_; clear hg_ hnew_; (first | rw [← t.1] at x | (simp only [Int.reduceToNat] at x; rw [← t.1] at x)); have k := rw_ x m; obtain ⟨a, c, m⟩ := u3_ hb a c m; clear hb x; have ja := n2_ l; obtain ⟨ka, la, ma, na, oa, pa, qa, ra⟩ := bc4_ a.1) | ((with_reducible refine gate_builtin (b := .append) (xs := #[.tmp 3, .tmp 5]) rfl ?_); at_builtin; refine Kd.R_append_rows k99 (w0 := w) w.heap.size rfl (.tmp 3) (.tmp 5) 27 99 (.agg #[(.string ⟨#[]⟩), (.string ⟨#[]⟩)]) 32 rfl Tryz.underlying27 info99 rfl (by decide) (by omega) I n d _ _ _ (fun _ => True) (fun _ => False) rfl rfl ?aO ?aR (fun _ _ h => h) (fun _ h => h.elim) ?aF ?aB ?aS ?aL ?_; (case aR => repeat (first | exact (Kd.C_below B.1 m.1) | (with_reducible first | refine ca_ ?_ _ | refine cn_ ?_ _ | refine cd_ ?_))); (case aB => exact (hs_ m.1)); (case aF => exact (fun _ _ => trivial)); (case aO => exact (rp_ k.1)); (case aS => exact (below_size (hs_ m.1))); (case aL => have := G.1; omega); intro sa w9 ho hb hg hat; rw [← D.1] at ho; replace a := M_ (blk_grown (bq_ a.1) hg (Kd.R_ne k.1 a.1 (by decide))); replace c := M_ (blk_grown (bq_ c.1) hg (Kd.R_ne k.1 c.1 (by decide))); replace m := M_ (hb); have y := M_ (ho); clear k; clear ho hb hg hat; obtain ⟨z, A, J⟩ := Kd.R_slice y.1; subst J; obtain ⟨T, U, V, W, X, Y, Z, aa⟩ := bc4_ a.1; obtain ⟨ba, ca, da, ea, fa, ga, ha, ia⟩ := bc4_ c.1))
 refine bodyPost_ret (results_cell_row rfl _ _ v 29 #[.slice z u.length A, .int .i64 g, .int .i64 i, .string j] (0, 0) _ rfl (bp_ c.1) Tryz.underlying29 rfl (by kernel_rfl)) rfl ?_
 exact ⟨_, rr_, Kd.R_mono (rf_ v (Kd.R_far (p := ⟨E, 0, none⟩) (Kd.R_types (Kd.R_types y.1 a.1 (by decide)) c.1 (by decide)) (fun _ hk => hk.1.2) (.slice z u.length A)) (fun _ hk => hk.2)) (fun _ hk => trivial), hs_ m.1⟩
def spec_l4All.l0 : Nat → List (S29) → List (S29) → Int → Option ((List (S29)))
 | 0, _, _, _ => none
 | k + 1, c, d, b => if b < (c.length : Int) then (if 0 ≤ b then ((spec_l4Copy.f ((rd_T29 c b).f0) ((rd_T29 c b).f1) ((rd_T29 c b).f2) ((rd_T29 c b).f3)).bind fun a => (if d.length < 2513169434916 then (spec_l4All.l0 k c (d ++ [(⟨a.1, a.2.1, a.2.2.1, a.2.2.2⟩ : S29)]) (wrap64 (b + 1))) else (none))) else (none)) else (some d)
def spec_l4All.f (k : Nat) (l0 : List (S29)) : Option ((List (S29))) := spec_l4All.l0 k l0 (([] : List (S29))) 0
theorem spec_l4All.calls (k : Nat) (A0 : Option Addr) (c0 : Nat) (l0 : List (S29)) (r : List (S29)) (w : World) (P : Kd.C k29 w A0 l0.length l0) (Q : l0.length ≤ c0) (h : spec_l4All.f k l0 = some r) :
  Calls Tryz.prog 82 #[.slice A0 l0.length c0] w fun e w' => ∃ v0_ : Value, e = .returned (v0_) ∧ Kd.S k29 29 w' w.heap.size (fun _ => True) v0_ r ∧ Below w.heap.size w w' := by
 have hu29 := Tryz.underlying29
 have ea := M_ P
 have Ia := M_ Q
 clear P Q
 have x := M_ (Below.refl w.heap.size w)
 unfold spec_l4All.f at h
 have H := h; clear h
 obtain ⟨I, hy_⟩ : ∃ y_ : List (S29), y_ = (([] : List (S29))) := ⟨_, rfl⟩
 replace H : (spec_l4All.l0 k l0 I 0) = some r := hm_
 have z := M_ hy_; clear hy_
 have H' := M_ H
 clear H
 go_enter Tryz.func82, Tryz.ntmps82
 go_wp2_with (first | ((with_reducible refine gd_ 6 rfl ?_); refine Kd.S_lit k29 _ 29 ?hg (N := 6) ?hd (xs := ([] : List (S29))) (inner := []) (ok := fun _ => True) (okp := fun _ => True) ?hr ?hp (fun _ hk => hk) trivial (Below.refl _ _) (Nat.le_refl _) (by simp) ?_; (case hd => rfl); (case hg => rfl); (case hr => first | (go_simp; done) | (go_simp; rfl)); (case hp => exact (Reps.none _ _)); intro Ba w2 A hb hg_ hnew_; clear hg_ hnew_; (first | rw [← z.1] at A | (simp only [Int.reduceToNat] at A; rw [← z.1] at A)); have K := sw_ A x; have T := st_ x hb; clear x; have x := T; clear T; clear hb A))
 go_loopg [3, 4] k (fun kq v3 v4 w' => ∃ (y : List (S29)) (a : Int), v4 = .int .i64 a ∧ Aside0 (spec_l4All.l0 kq l0 y a = some r) ∧ Aside0 (kq ≤ k) ∧ Aside0 (Kd.S k29 29 w' w.heap.size (fun _ => True) v3 y) ∧ Aside0 (Below w.heap.size w w'))
 case atStart => exact ⟨(I), (0), rs_, H', ⟨Nat.le_refl _⟩, ⟨sp_ K.1⟩, ⟨hs_ x.1⟩⟩
 case round =>
  clear H'
  obtain ⟨y, a, rfl, HA, U, i, x⟩ := hrel
  cases gk with
  | zero => exact absurd HA.1 (by simp [spec_l4All.l0])
  | succ k1 =>
   have H := HA.1
   clear HA
   simp only [spec_l4All.l0] at H
   replace H := ie_ H; rcases H with ⟨V, H⟩ | ⟨V, H⟩
   ·
    have W := decide_eq_true V
    clear V
    replace H := id_ H; obtain ⟨Da, H⟩ := H
    replace H := bi_ H; obtain ⟨⟨j, m, n, q⟩, A6, H⟩ := H; (try dsimp only at H)
    replace H := im_ H; obtain ⟨X, H⟩ := H
    obtain ⟨J, hy_⟩ : ∃ y_ : List (S29), y_ = (y ++ [(⟨j, m, n, q⟩ : S29)]) := ⟨_, rfl⟩
    replace H : (spec_l4All.l0 k1 l0 J (wrap64 (a + 1))) = some r := hm_
    have L := M_ hy_; clear hy_
    have H' := M_ H
    clear H
    obtain ⟨ga, E, F, Y, Z, aa, ba, ca, B, D, Ea, Fa⟩ := au_T29 ea.1 x a
    cases Y
    go_wp2_with (first | ((with_reducible refine gate_callee (f := 63) rfl ?_); refine gl_ (some 17) Tryz.func63 #[.agg #[.slice E ((rd_T29 l0 a).f0).length F, .int .i64 ((rd_T29 l0 a).f1), .int .i64 ((rd_T29 l0 a).f2), .string ((rd_T29 l0 a).f3)]] ?_; (with_reducible refine (spec_l4Copy.calls _ _ ((rd_T29 l0 a).f0) ((rd_T29 l0 a).f1) ((rd_T29 l0 a).f2) ((rd_T29 l0 a).f3) j m n q _ ?_ ?_ A6.1).mono ?_); exact cp_ ((Kd.C_below D.1 x.1)); exact B.1; rintro e w8 ⟨Ga, rfl, M, hb⟩; refine ⟨_, rfl, ?_⟩; replace i := M_ (Kd.S_elder' (sp_ i.1) (Kd.R_base M) hb); have l := rw_ M x; replace x := st_ x hb; (try clear hb M)) | ((with_reducible refine gd_ 5 rfl ?_); refine bV_ 5 #[.slice none 0 0, .int .i64 0, .int .i64 0, .string (⟨#[]⟩ : ByteArray)] 29 ?_; intro c hg w9 d hb; replace i := se_ i hg hb; replace l := rb_ l hb; have ha := gq_ hg x; replace x := st_ x hb; clear hb hg; obtain ⟨s, u, da⟩ := Kd.R_slice l.1; subst da; obtain ⟨ia, ja, ka, la, ma, na, oa, pa⟩ := bc4_ d.1) | ((with_reducible refine gate_store (t := 29) (p := 5) rfl ?_); refine store_event (t := 29) (p := 5) (v := ?vo_w12) (w1 := ((((w9.setCell ⟨c, 0, none⟩ (.slice s j.length u)).setCell ⟨c, 1, none⟩ (.int .i64 m)).setCell ⟨c, 2, none⟩ (.int .i64 n)).setCell ⟨c, 3, none⟩ (.string q))) ?hg ?ho ?hn ?hr ?_; (case ho => rfl); (case hg => rfl); (case hn => rfl); (case hr => first | (go_simp; done) | (go_simp; rfl)); intro G hw; replace i : Aside0 (Kd.S k29 29 G w.heap.size (fun k_ => some k_ ≠ (.slice s j.length u : Value).ownBlock ∧ k_ ≠ c) u3 y) := ⟨(by rw [hw]; exact (Kd.S_mono (sf_ c i.1 (fun _ hk => hk.2)) (fun _ hk => ⟨hk.1.2, hk.2⟩)))⟩; replace l : Aside0 (Kd.R k99 99 G w.heap.size (fun _ => True) (.slice s j.length u) j) := ⟨(by rw [hw]; exact (Kd.R_mono (ry_ l.1 d.1) (fun _ hk => trivial)))⟩; replace d : Aside0 (G.heap[c]? = some (.cells #[.slice s j.length u, .int .i64 m, .int .i64 n, .string q] 29 (0, 0))) := ⟨(by rw [hw]; exact (bp_ d.1))⟩; replace x : Aside0 (Below w.heap.size w G) := ⟨(by rw [hw]; exact (hs_ x.1))⟩; clear hw; obtain ⟨ra, sa, ta, ua, va, wa, xa, ya⟩ := bc4_ d.1) | ((with_reducible refine gate_builtin (b := .append) (xs := #[.tmp 18, .tmp 20]) rfl ?_); at_builtin; refine Kd.S_append k29 (w0 := w) w.heap.size rfl (.tmp 18) (.tmp 20) 40 29 (.agg #[(.slice none 0 0), (.int .i64 0), (.int .i64 0), (.string ⟨#[]⟩)]) 56 rfl Tryz.underlying40 info29 rfl (by decide) (by omega) u3 y (⟨j, m, n, q⟩ : S29) [.slice s j.length u, .int .i64 m, .int .i64 n, .string q] (fun k_ => k_ ≠ c) (fun k_ => some k_ = (.slice s j.length u : Value).ownBlock) rfl rfl ?aP (fun k_ hk_ => ((Kd.R_mono (ok' := fun k_ => ((fun k_ => k_ ≠ c)) k_ ∧ some k_ ≠ (u3 : Value).ownBlock) (Kd.R_types (Kd.R_apart' (l.1) (Kd.S_typed i.1) (by decide)) d.1 (by decide)) (fun k_ hk => ⟨hk.2, hk.1.2⟩))).1 k_ hk_.symm) ?aF ?aO ?aB ?aS ?aL ?_; (case aP => exact k29_mkM _ _ _ (⟨j, m, n, q⟩ : S29) (Kd.R_mono (Kd.R_tight rfl (Kd.R_mono (ok' := fun k_ => ((fun k_ => k_ ≠ c)) k_ ∧ some k_ ≠ (u3 : Value).ownBlock) (Kd.R_types (Kd.R_apart' (l.1) (Kd.S_typed i.1) (by decide)) d.1 (by decide)) (fun k_ hk => ⟨hk.2, hk.1.2⟩))) (fun _ h_ => h_))); (case aB => exact (hs_ x.1)); (case aF => exact (fun k_ hk => Kd.freshB (g := c) (o := .cells #[.slice s j.length u, .int .i64 m, .int .i64 n, .string q] 29 (0, 0)) (pb_ d.1) k_ hk)); (case aO => exact (Kd.S_mono (sp_ i.1) (fun k_ hk => ⟨hk.2, fun e_ => hk.1 e_⟩))); (case aS => exact (below_size (hs_ x.1))); (case aL => have := X.1; omega); intro Ha Na ho hb hg hat; rw [← L.1] at ho; replace d := M_ (blk_grown (bq_ d.1) hg (Kd.S_away i.1 (fun _ hk => hk.2))); replace x := M_ (hb); have O := M_ (ho); clear i l; clear ho hb hg hat))
    go_roundg k1
    case measure => have := U.1; omega
    case rel => exact ⟨(J), (wrap64 (a + 1)), rs_, H', ⟨by have := U.1; omega⟩, ⟨Kd.S_mono (sp_ O.1) (fun _ hk => trivial)⟩, ⟨hs_ x.1⟩⟩
   have W : decide (a < (l0.length : Int)) = false := decide_eq_false V
   clear V
   obtain rfl := Option.some.inj H
   go_wp2
   go_ret
   exact ⟨_, rr_, sp_ i.1, hs_ x.1⟩
def spec_AlarmsIn.l0 : Nat → List (S29) → Int → Int → Int → List (S80) → Option ((List (S29)))
 | 0, _, _, _, _, _ => none
 | k + 1, g, e, b, c, a => if e < (a.length : Int) then (if 0 ≤ e then ((spec_l4All.f k ((rd_T80 a e).f1)).bind fun d => (if g.length + d.length < 2513169434916 then (spec_AlarmsIn.l0 k (g ++ d) (wrap64 (e + 1)) b c a) else (none))) else (none)) else (some g)
def spec_AlarmsIn.f (k : Nat) (a : Int) (b : Int) (c : List (S80)) : Option ((List (S29))) := spec_AlarmsIn.l0 k (([] : List (S29))) 0 a b c
theorem spec_AlarmsIn.calls (k : Nat) (g : Int) (i : Int) (o : Option Addr) (p : Nat) (c : List (S80)) (r : List (S29)) (w : World) (s : Kd.C k80 w o c.length c) (t : c.length ≤ p) (h : spec_AlarmsIn.f k g i c = some r) :
  Calls Tryz.prog 27 #[.agg #[.int .i64 g, .int .i64 i, .slice o c.length p]] w fun e w' => ∃ v0_ : Value, e = .returned (v0_) ∧ Kd.S k29 29 w' w.heap.size (fun _ => True) v0_ r ∧ Below w.heap.size w w' := by
 have hu26 := Tryz.underlying26
 have I := M_ s
 have aa := M_ t
 clear s t
 have l := M_ (Below.refl w.heap.size w)
 unfold spec_AlarmsIn.f at h
 have H := h; clear h
 obtain ⟨F, hy_⟩ : ∃ y_ : List (S29), y_ = (([] : List (S29))) := ⟨_, rfl⟩
 replace H : (spec_AlarmsIn.l0 k F 0 g i c) = some r := hm_
 have u := M_ hy_; clear hy_
 have H' := M_ H
 clear H
 go_enter Tryz.func27, Tryz.ntmps27
 go_wp2_with (first | ((with_reducible refine gd_ 1 rfl ?_); refine bV_ 1 #[.int .i64 g, .int .i64 i, .slice o c.length p] 26 ?_; intro J hg w2 a hb; have ba := gq_ hg l; replace l := st_ l hb; clear hb hg) | ((with_reducible refine gd_ 5 rfl ?_); refine Kd.S_lit k29 _ 29 ?hg (N := 5) ?hd (xs := ([] : List (S29))) (inner := []) (ok := fun _ => True) (okp := fun _ => True) ?hr ?hp (fun _ hk => hk) trivial (Below.refl _ _) (Nat.le_refl _) (by simp) ?_; (case hd => rfl); (case hg => rfl); (case hr => first | (go_simp; done) | (go_simp; rfl)); (case hp => exact (Reps.none _ _)); intro la w3 v hb hg_ hnew_; clear hg_ hnew_; (first | rw [← u.1] at v | (simp only [Int.reduceToNat] at v; rw [← u.1] at v)); have K := sw_ v l; obtain ⟨a, l⟩ := u2_ hb a l; clear hb v))
 go_loopg [3, 4] k (fun kq v3 v4 w' => ∃ (m : List (S29)) (d : Int), v4 = .int .i64 d ∧ Aside0 (spec_AlarmsIn.l0 kq m d g i c = some r) ∧ Aside0 (kq ≤ k) ∧ Aside0 (Kd.S k29 29 w' w.heap.size (fun _ => True) v3 m) ∧ Aside0 (w'.heap[J]? = some (.cells #[.int .i64 g, .int .i64 i, (.slice o c.length p)] 26 (0, 0))) ∧ Aside0 (Below w.heap.size w w'))
 case atStart => exact ⟨(F), (0), rs_, H', ⟨Nat.le_refl _⟩, ⟨sp_ K.1⟩, ⟨bq_ a.1⟩, ⟨hs_ l.1⟩⟩
 case round =>
  clear H'
  obtain ⟨m, d, rfl, HA, Q, j, a, l⟩ := hrel
  cases gk with
  | zero => exact absurd HA.1 (by simp [spec_AlarmsIn.l0])
  | succ k1 =>
   have H := HA.1
   clear HA
   simp only [spec_AlarmsIn.l0] at H
   replace H := ie_ H; rcases H with ⟨R, H⟩ | ⟨R, H⟩
   ·
    have T := decide_eq_true R
    clear R
    replace H := id_ H; obtain ⟨ma, H⟩ := H
    replace H := bi_ H; obtain ⟨x, A7, H⟩ := H
    replace H := im_ H; obtain ⟨U, H⟩ := H
    obtain ⟨G, hy_⟩ : ∃ y_ : List (S29), y_ = (m ++ x) := ⟨_, rfl⟩
    replace H : (spec_AlarmsIn.l0 k1 G (wrap64 (d + 1)) g i c) = some r := hm_
    have L := M_ hy_; clear hy_
    have H' := M_ H
    clear H
    obtain ⟨na, oa, pa, qa, ra, sa⟩ := bc3_ a.1
    obtain ⟨ea, B, D, V, W, X, y, z, ta, ua⟩ := au_T80 I.1 l d
    cases V
    go_wp2_with (first | ((with_reducible refine gate_callee (f := 82) rfl ?_); refine gl_ (some 20) Tryz.func82 #[.slice B ((rd_T80 c d).f1).length D] ?_; (with_reducible refine (spec_l4All.calls k1 _ _ ((rd_T80 c d).f1) x _ ?_ ?_ A7.1).mono ?_); exact cp_ ((Kd.C_below z.1 l.1)); exact y.1; rintro e Ca ⟨va, rfl, M, hb⟩; refine ⟨_, rfl, ?_⟩; obtain ⟨Z, A⟩ := Kd.S_name M; replace j := su_ A (sp_ j.1) hb; have n := sg_ A M l; obtain ⟨a, l⟩ := u2_ hb a l; (try clear hb M); obtain ⟨wa, xa, Y⟩ := Kd.S_slice n.1; subst Y; obtain ⟨O, E, q⟩ := Kd.S_fp ((Kd.S_mono n.1 (fun k_ hk => (⟨hk, fun ez_ => Nat.lt_irrefl _ (Nat.lt_of_lt_of_le ((Kd.S_R j.1).1 _ ez_.symm).2 hk.2)⟩ : _ ∧ some k_ ≠ (u3 : Value).ownBlock))))) | ((with_reducible refine gate_builtin (b := .append) (xs := #[.tmp 13, .tmp 20]) rfl ?_); at_builtin; refine Kd.S_append_rows k29 (w0 := w) w.heap.size rfl (.tmp 13) (.tmp 20) 40 29 (.agg #[(.slice none 0 0), (.int .i64 0), (.int .i64 0), (.string ⟨#[]⟩)]) 56 rfl Tryz.underlying40 info29 rfl (by decide) (by omega) u3 m x _ _ _ (fun _ => True) O rfl rfl ?aR (fun k_ hk_ => ⟨trivial, (q k_ hk_).1.2⟩) ?aF ?aO ?aB ?aS ?aL ?_; (case aR => exact E); (case aB => exact (hs_ l.1)); (case aF => exact (fun _ _ => trivial)); (case aO => exact (Kd.S_mono (sp_ j.1) (fun k_ hk => ⟨trivial, fun e_ => (fun ez_ => Nat.lt_irrefl _ (Nat.lt_of_lt_of_le hk.2 (q _ ez_).1.1.2)) e_⟩))); (case aS => exact (below_size (hs_ l.1))); (case aL => have := U.1; omega); intro ya Ea ho hb hg hat; rw [← L.1] at ho; replace a := bg_ a hg j; replace l := M_ (hb); have P := M_ (ho); clear j n; clear ho hb hg hat))
    go_roundg k1
    case measure => have := Q.1; omega
    case rel => exact ⟨(G), (wrap64 (d + 1)), rs_, H', ⟨by have := Q.1; omega⟩, ⟨sp_ P.1⟩, ⟨bq_ a.1⟩, ⟨hs_ l.1⟩⟩
   have T : decide (d < (c.length : Int)) = false := decide_eq_false R
   clear R
   obtain rfl := Option.some.inj H
   obtain ⟨fa, ga, ha, ia, ja, ka⟩ := bc3_ a.1
   go_wp2
   go_ret
   exact ⟨_, rr_, sp_ j.1, hs_ l.1⟩
def spec_l6Copy.f (k : Nat) (a : Int) (b : List (S29)) : Option (Int × (List (S29))) := (spec_l4All.f k b).bind fun c => (some (a, c))
theorem spec_l6Copy.calls (k : Nat) (l : Int) (m : Option Addr) (o : Nat) (d : List (S29)) (P : Int) (Q : List (S29)) (w : World) (r : Kd.C k29 w m d.length d) (s : d.length ≤ o) (h : spec_l6Copy.f k l d = some (P, Q)) :
  Calls Tryz.prog 92 #[.agg #[.int .i64 l, .slice m d.length o]] w fun e w' => ∃ v1_ : Value, e = .returned (.agg #[.int .i64 P, v1_]) ∧ Kd.S k29 29 w' w.heap.size (fun _ => True) v1_ Q ∧ Below w.heap.size w w' := by
 have hu80 := Tryz.underlying80
 have y := M_ r
 have z := M_ s
 clear r s
 have q := M_ (Below.refl w.heap.size w)
 unfold spec_l6Copy.f at h
 have H := h; clear h
 replace H := bi_ H; obtain ⟨x, W, H⟩ := H
 simp only [Option.some.injEq, Prod.mk.injEq] at H
 obtain ⟨rfl, rfl⟩ := H
 go_enter Tryz.func92, Tryz.ntmps92
 try go_wp2_with (first | ((with_reducible refine gd_ 1 rfl ?_); refine bV_ 1 #[.int .i64 l, .slice m d.length o] 80 ?_; intro t hg w3 b hb; have J := gq_ hg q; replace q := st_ q hb; clear hb hg) | ((with_reducible refine gd_ 2 rfl ?_); refine bV_ 2 #[.int .i64 0, .slice none 0 0] 80 ?_; intro p hg X a hb; have L := gq_ hg q; replace q := st_ q hb; obtain ⟨g, j, b⟩ := nb_ b hg hb; clear hb hg))
 obtain ⟨b, a, q⟩ := y3_ b a q
 refine start_ (n := 7) (S := fun w' => c_ w' t 0 (.int .i64 l) ∧ c_ w' t 1 (.slice m d.length o)) (ds := []) (b_ 0 7) (by kernel_rfl) rfl rfl (e2_ b.1) (fun c => ?_)
 generalize X.drew = w5 at b a q c ⊢
 refine pure_ (i := 0) (N := some 3) (v := ?_) (a' := ?_) (b_ 1 6) rfl rfl (by kernel_rfl) (fun _ _ _ h => h) (Or.inl ⟨by rfl, ?_⟩) ?_ ?_
 rotate_left
 ·
  intro w'
  go_simp
  with_reducible rfl
 rotate_left
 ·
  simp only [fr_]
  rfl
 refine pure_ (i := 2) (N := some 5) (v := ?_) (a' := ?_) #[t_,f_,t_,f_,f_,f_,f_] rfl rfl (by kernel_rfl) (fun _ _ _ h => h) (Or.inl ⟨by rfl, ?_⟩) ?_ ?_
 rotate_left
 ·
  intro w'
  go_simp
  with_reducible rfl
 rotate_left
 ·
  simp only [fr_]
  rfl
 refine take_ (i := 1) (N := some 4) (v := ?_) (a' := ?_) (b_ 3 4) rfl rfl (by kernel_rfl) (fun _ _ _ h => h) (Or.inl ⟨by rfl, ?_⟩) c ?_ ?_
 rotate_left
 ·
  rintro w' ⟨s0, s1⟩
  go_simp
  with_reducible rfl
 rotate_left
 ·
  simp only [fr_]
  rfl
 refine take_ (i := 3) (N := some 6) (v := ?_) (a' := ?_) (b_ 4 3) rfl rfl (by kernel_rfl) (fun _ _ _ h => h) (Or.inl ⟨by rfl, ?_⟩) c ?_ ?_
 rotate_left
 ·
  rintro w' ⟨s0, s1⟩
  go_simp
  with_reducible rfl
 rotate_left
 ·
  simp only [fr_]
  rfl
 refine one_ (i := 4) (N := some 7) (b_ 5 2) rfl rfl (by kernel_rfl) (by decide) (fun K D => ?_)
 refine gs_ Tryz.func82 #[.slice m d.length o] ?_
 with_reducible refine (spec_l4All.calls k _ _ d x _ ?_ ?_ W.1).mono ?_
 exact cp_ ((Kd.C_below y.1 q.1))
 exact z.1
 rintro e R ⟨T, rfl, A, hb⟩
 refine ⟨_, rfl, ?_⟩
 have u := sw_ A q
 obtain ⟨b, a, q⟩ := u3_ hb b a q
 (try clear hb A)
 obtain ⟨M, O, B⟩ := Kd.S_slice u.1
 (first | subst B | (obtain ⟨rfl, rfl⟩ := si_ B))
 refine ho_ D (e2_ b.1) (fun c => ?_)
 refine pure_ (i := 5) (N := some 8) (v := ?_) (a' := ?_) (b_ 6 1) rfl rfl (by kernel_rfl) (fun _ _ _ h => h) (Or.inl ⟨by rfl, ?_⟩) ?_ ?_
 rotate_left
 ·
  intro w'
  go_simp
  with_reducible rfl
 rotate_left
 ·
  simp only [fr_]
  rfl
 refine one_ (i := 6) (N := none) (b_ 7 0) rfl rfl (by kernel_rfl) (by decide) (fun K D => ?_)
 have Y : R.cell? ⟨p, 0, none⟩ = some (.int .i64 0) := bx_ a.1 0
 have U := blk_frozen a.1 0
 have E := g.1
 have F := j.1
 have Z : R.cell? ⟨p, 1, none⟩ = some (.slice none 0 0) := bx_ a.1 1
 have V := blk_frozen a.1 1
 have G := g.1
 have I := j.1
 refine skip_ (w1 := ?_) (by rfl) rfl ?_ ?_
 rotate_left
 ·
  go_simp
  rfl
 refine D.out _ _ ⟨(cg_ (c.1)), (cg_ (c.2))⟩ (fun c => ?_)
 clear D K
 refine done_ (by kernel_rfl) ?_
 try go_wp2
 refine bodyPost_ret (results_cell_row rfl _ _ p 80 #[.int .i64 l, .slice M x.length O] (0, 0) _ rfl (bp_ a.1) Tryz.underlying80 rfl (by kernel_rfl)) rfl ?_
 exact ⟨_, rr_, Kd.S_mono (sy_ u.1 a.1) (fun _ hk => trivial), hs_ q.1⟩
def spec_l7Copy.l0 : Nat → Int → Int → Int → List (S80) → Int → Int → List (S80) → Option (Int × Int × (List (S80)))
 | 0, _, _, _, _, _, _, _ => none
 | k + 1, i, e, g, a, c, d, b => if i < (a.length : Int) then (if 0 ≤ i then ((spec_l6Copy.f k ((rd_T80 a i).f0) ((rd_T80 a i).f1)).bind fun h => (if b.length < 4398046511104 then (spec_l7Copy.l0 k (wrap64 (i + 1)) e g a c d (b ++ [(⟨h.1, h.2⟩ : S80)])) else (none))) else (none)) else (some (c, d, b))
def spec_l7Copy.f (k : Nat) (a : Int) (b : Int) (c : List (S80)) : Option (Int × Int × (List (S80))) := spec_l7Copy.l0 k 0 a b c a b (([] : List (S80)))
theorem spec_l7Copy.calls (k : Nat) (m : Int) (n : Int) (T : Option Addr) (I : Nat) (l : List (S80)) (r1 : Int) (r2 : Int) (r3 : List (S80)) (w : World) (V : Kd.C k80 w T l.length l) (W : l.length ≤ I) (h : spec_l7Copy.f k m n l = some (r1, r2, r3)) :
  Calls Tryz.prog 59 #[.agg #[.int .i64 m, .int .i64 n, .slice T l.length I]] w fun e w' => ∃ v2_ : Value, e = .returned (.agg #[.int .i64 r1, .int .i64 r2, v2_]) ∧ Kd.S k80 80 w' w.heap.size (fun _ => True) v2_ r3 ∧ Below w.heap.size w w' := by
 have hu26 := Tryz.underlying26
 have hu80 := Tryz.underlying80
 have la := M_ V
 have La := M_ W
 clear V W
 have B := M_ (Below.refl w.heap.size w)
 unfold spec_l7Copy.f at h
 have H := h; clear h
 obtain ⟨X, hy_⟩ : ∃ y_ : List (S80), y_ = (([] : List (S80))) := ⟨_, rfl⟩
 replace H : (spec_l7Copy.l0 k 0 m n l m n X) = some (r1, r2, r3) := hm_
 have Y := M_ hy_; clear hy_
 have H' := M_ H
 clear H
 go_enter Tryz.func59, Tryz.ntmps59
 go_wp2_with (first | ((with_reducible refine gd_ 1 rfl ?_); refine bV_ 1 #[.int .i64 m, .int .i64 n, .slice T l.length I] 26 ?_; intro Z hg w2 c hb; have Ma := gq_ hg B; replace B := st_ B hb; clear hb hg) | ((with_reducible refine gd_ 2 rfl ?_); refine bV_ 2 #[.int .i64 0, .int .i64 0, .slice none 0 0] 26 ?_; intro L hg w3 d hb; have Na := gq_ hg B; replace B := st_ B hb; obtain ⟨x, ma, c⟩ := nb_ c hg hb; clear hb hg; have ic := n2_ x; obtain ⟨jc, kc, lc, mc, nc, oc⟩ := bc3_ c.1) | ((with_reducible refine gd_ 10 rfl ?_); refine Kd.S_lit k80 _ 80 ?hg (N := 10) ?hd (xs := ([] : List (S80))) (inner := []) (ok := fun _ => True) (okp := fun _ => True) ?hr ?hp (fun _ hk => hk) trivial (Below.refl _ _) (Nat.le_refl _) (by simp) ?_; (case hd => rfl); (case hg => rfl); (case hr => first | (go_simp; done) | (go_simp; rfl)); (case hp => exact (Reps.none _ _)); intro pc w6 aa hb hg_ hnew_; clear hg_ hnew_; (first | rw [← Y.1] at aa | (simp only [Int.reduceToNat] at aa; rw [← Y.1] at aa)); have F := sw_ aa B; obtain ⟨c, d, B⟩ := u3_ hb c d B; clear hb aa; obtain ⟨Oa, Pa, Qa⟩ := Kd.S_slice F.1; subst Qa) | ((with_reducible refine gd_ 3 rfl ?_); refine bV_ 3 #[.int .i64 0, .int .i64 0, .slice none 0 0] 26 ?_; intro ba hg w9 i hb; replace F := sb_ F hb; have Ra := gq_ hg B; replace B := st_ B hb; obtain ⟨E, M, c⟩ := nb_ c hg hb; obtain ⟨na, y, d⟩ := nb_ d hg hb; clear hb hg; have Sa := n2_ M; have Ta := n2_ y; obtain ⟨Ua, Va, Wa, Xa, Ya, Za⟩ := bc3_ i.1))
 go_loopg [4] k (fun kq v4 w' => ∃ (s : Int) (j : List (S80)) (q : Value), v4 = .int .i64 s ∧ Aside0 (spec_l7Copy.l0 kq s m n l m n j = some (r1, r2, r3)) ∧ Aside0 (kq ≤ k) ∧ Aside0 (Kd.S k80 80 w' w.heap.size (fun _ => True) q j) ∧ Aside0 (w'.heap[Z]? = some (.cells #[.int .i64 m, .int .i64 n, (.slice T l.length I)] 26 (0, 0))) ∧ Aside0 (w'.heap[L]? = some (.cells #[.int .i64 0, .int .i64 0, (.slice none 0 0)] 26 (0, 0))) ∧ Aside0 (w'.heap[ba]? = some (.cells #[.int .i64 m, .int .i64 n, q] 26 (0, 0))) ∧ Aside0 (Below w.heap.size w w'))
 case atStart => exact ⟨(0), (X), (.slice Oa X.length Pa), rs_, H', ⟨Nat.le_refl _⟩, ⟨Kd.S_mono (sy_ F.1 i.1) (fun _ hk => trivial)⟩, ⟨bq_ c.1⟩, ⟨bq_ d.1⟩, ⟨bp_ i.1⟩, ⟨hs_ B.1⟩⟩
 case round =>
  clear H'
  obtain ⟨s, j, q, rfl, HA, Aa, a, c, d, i, B⟩ := hrel
  cases gk with
  | zero => exact absurd HA.1 (by simp [spec_l7Copy.l0])
  | succ k1 =>
   have H := HA.1
   clear HA
   simp only [spec_l7Copy.l0] at H
   replace H := ie_ H; rcases H with ⟨ca, H⟩ | ⟨ca, H⟩
   ·
    have oa := decide_eq_true ca
    clear ca
    replace H := id_ H; obtain ⟨cb, H⟩ := H
    replace H := bi_ H; obtain ⟨⟨D, u⟩, db, H⟩ := H; (try dsimp only at H)
    replace H := im_ H; obtain ⟨pa, H⟩ := H
    obtain ⟨da, hy_⟩ : ∃ y_ : List (S80), y_ = (j ++ [(⟨D, u⟩ : S80)]) := ⟨_, rfl⟩
    replace H : (spec_l7Copy.l0 k1 (wrap64 (s + 1)) m n l m n da) = some (r1, r2, r3) := hm_
    have qa := M_ hy_; clear hy_
    have H' := M_ H
    clear H
    have eb := n2_ x
    have fb := n2_ E
    obtain ⟨gb, ib, jb, kb, lb, mb⟩ := bc3_ c.1
    obtain ⟨ra, ia, ja, Ba, Ca, Da, ea, fa, qc, rc⟩ := au_T80 la.1 B s
    cases Ba
    go_wp2_with (first | ((with_reducible refine gate_callee (f := 92) rfl ?_); refine gl_ (some 24) Tryz.func92 #[.agg #[.int .i64 ((rd_T80 l s).f0), .slice ia ((rd_T80 l s).f1).length ja]] ?_; (with_reducible refine (spec_l6Copy.calls k1 ((rd_T80 l s).f0) _ _ ((rd_T80 l s).f1) D u _ ?_ ?_ db.1).mono ?_); exact cp_ ((Kd.C_below fa.1 B.1)); exact ea.1; rintro e vc ⟨sc, rfl, sa, hb⟩; refine ⟨_, rfl, ?_⟩; obtain ⟨U, ga⟩ := Kd.S_name sa; replace a := su_ ga (sp_ a.1) hb; have z := sg_ ga sa B; obtain ⟨c, d, i, B⟩ := u4_ hb c d i B; (try clear hb sa)) | ((with_reducible refine gd_ 5 rfl ?_); refine bV_ 5 #[.int .i64 0, .slice none 0 0] 80 ?_; intro A hg nb r hb; replace a := se_ a hg hb; replace z := sb_ z hb; have ob := gq_ hg B; replace B := st_ B hb; obtain ⟨ta, O, c⟩ := nb_ c hg hb; obtain ⟨ua, P, d⟩ := nb_ d hg hb; obtain ⟨va, Q, i⟩ := nb_ i hg hb; clear hb hg; have pb := n2_ O; have qb := n2_ P; have rb := n2_ Q; obtain ⟨sb, tb, ub, vb⟩ := bc2_ r.1; obtain ⟨J, K, Ea⟩ := Kd.S_slice z.1; subst Ea) | ((with_reducible refine gate_store (t := 80) (p := 5) rfl ?_); refine store_event (t := 80) (p := 5) (v := ?vo_w27) (w1 := ((nb.setCell ⟨A, 0, none⟩ (.int .i64 D)).setCell ⟨A, 1, none⟩ (.slice J u.length K))) ?hg ?ho ?hn ?hr ?_; (case ho => rfl); (case hg => rfl); (case hn => rfl); (case hr => first | (go_simp; done) | (go_simp; rfl)); intro R hw; replace a : Aside0 (Kd.S k80 80 R w.heap.size (fun k_ => k_ < U ∧ k_ ≠ A) q j) := ⟨(by rw [hw]; exact (Kd.S_mono (sf_ A a.1 (fun _ hk => hk.2)) (fun _ hk => ⟨hk.1.2, hk.2⟩)))⟩; replace z : Aside0 (Kd.S k29 29 R w.heap.size (fun k_ => U ≤ k_) (.slice J u.length K) u) := ⟨(by rw [hw]; exact (Kd.S_mono (sy_ z.1 r.1) (fun _ hk => hk.2)))⟩; replace c : Aside0 (R.heap[Z]? = some (.cells #[.int .i64 m, .int .i64 n, .slice (some ra) l.length I] 26 (0, 0))) := ⟨(by rw [hw]; exact (bq_ c.1))⟩; replace d : Aside0 (R.heap[L]? = some (.cells #[.int .i64 0, .int .i64 0, .slice none 0 0] 26 (0, 0))) := ⟨(by rw [hw]; exact (bq_ d.1))⟩; replace i : Aside0 (R.heap[ba]? = some (.cells #[.int .i64 m, .int .i64 n, q] 26 (0, 0))) := ⟨(by rw [hw]; exact (bq_ i.1))⟩; replace r : Aside0 (R.heap[A]? = some (.cells #[.int .i64 D, .slice J u.length K] 80 (0, 0))) := ⟨(by rw [hw]; exact (bp_ r.1))⟩; replace B : Aside0 (Below w.heap.size w R) := ⟨(by rw [hw]; exact (hs_ B.1))⟩; clear hw; have wb := n2_ y; obtain ⟨xb, yb, zb, Ab, Bb, Cb⟩ := bc3_ i.1; obtain ⟨Db, Eb, Fb, Gb⟩ := bc2_ r.1; obtain ⟨wa, ka, G⟩ := Kd.S_fp (Kd.S_types (Kd.S_apart' (z.1) (Kd.S_typed a.1) (by decide)) r.1 (by decide))) | ((with_reducible refine gate_builtin (b := .append) (xs := #[.tmp 26, .tmp 28]) rfl ?_); at_builtin; refine Kd.S_append k80 (w0 := w) w.heap.size rfl (.tmp 26) (.tmp 28) 24 80 (.agg #[(.int .i64 0), (.slice none 0 0)]) 32 rfl Tryz.underlying24 info80 rfl (by decide) (by omega) q j (⟨D, u⟩ : S80) [.int .i64 D, .slice J u.length K] (fun k_ => k_ ≠ A) (fun k_ => wa k_) rfl rfl ?aP (fun k_ hk_ => ⟨(G k_ hk_).1.2, (G k_ hk_).1.1.2⟩) ?aF ?aO ?aB ?aS ?aL ?_; (case aP => exact k80_mkM _ _ _ (⟨D, u⟩ : S80) (Kd.S_mono ka (fun _ h_ => h_))); (case aB => exact (hs_ B.1)); (case aF => exact (fun k_ hk => Kd.freshB (g := A) (o := .cells #[.int .i64 D, .slice J u.length K] 80 (0, 0)) (pb_ r.1) k_ hk)); (case aO => exact (Kd.S_mono (sp_ a.1) (fun k_ hk => ⟨hk.2, fun e_ => (fun ez_ => Nat.lt_irrefl _ (Nat.lt_of_lt_of_le hk.1 (G _ ez_).1.1.1)) e_⟩))); (case aS => exact (below_size (hs_ B.1))); (case aL => have := pa.1; omega); intro tc wc ho hb hg hat; rw [← qa.1] at ho; replace c := bg_ c hg a; replace d := bg_ d hg a; replace i := bg_ i hg a; replace r := M_ (blk_grown (bq_ r.1) hg (Kd.S_away a.1 (fun _ hk => hk.2))); replace B := M_ (hb); have ha := M_ (ho); clear a z; clear ho hb hg hat; obtain ⟨Fa, Ga, Ha⟩ := Kd.S_slice ha.1; subst Ha; obtain ⟨Hb, Ib, Jb, Kb, Lb, Mb⟩ := bc3_ i.1))
    go_roundg k1
    case measure => have := Aa.1; omega
    case rel => exact ⟨(wrap64 (s + 1)), (da), (.slice Fa da.length Ga), rs_, H', ⟨by have := Aa.1; omega⟩, ⟨Kd.S_mono (sy_ ha.1 i.1) (fun _ hk => trivial)⟩, ⟨bq_ c.1⟩, ⟨bq_ d.1⟩, ⟨bp_ i.1⟩, ⟨hs_ B.1⟩⟩
   have oa : decide (s < (l.length : Int)) = false := decide_eq_false ca
   clear ca
   simp only [Option.some.injEq, Prod.mk.injEq] at H
   obtain ⟨rfl, rfl, rfl⟩ := H
   have Nb := n2_ x
   have Ob := n2_ E
   obtain ⟨Pb, Qb, Rb, Sb, Tb, Ub⟩ := bc3_ c.1
   have Vb := n2_ y
   obtain ⟨Wb, Xb, Yb, Zb, ac, bc⟩ := bc3_ i.1
   obtain ⟨cc, dc, ec, fc, gc, hc⟩ := bc3_ d.1
   obtain ⟨Ia, Ja, Ka⟩ := Kd.S_slice a.1
   subst Ka
   go_wp2
   refine bodyPost_ret (results_cell_row rfl _ _ L 26 #[.int .i64 m, .int .i64 n, .slice Ia j.length Ja] (0, 0) _ rfl (bp_ d.1) Tryz.underlying26 rfl (by kernel_rfl)) rfl ?_
   exact ⟨_, rr_, Kd.S_mono (sy_ a.1 d.1) (fun _ hk => trivial), hs_ B.1⟩
def spec_Sum.l0 : Nat → ByteArray → Int → Int → Option (Int)
 | 0, _, _, _ => none
 | k + 1, b, c, a => if a < (b.size : Int) then (if 0 ≤ a then (spec_Sum.l0 k b (Go.bits .and .i64 (wrap64 ((Go.bits .xor .i64 c (wrap64 (bt b a))) * 16777619)) 4294967295) (wrap64 (a + 1))) else (none)) else (some c)
def spec_Sum.f (k : Nat) (a : ByteArray) : Option (Int) := spec_Sum.l0 k a 2166136261 0
theorem spec_Sum.calls (k : Nat) (c : ByteArray) (r : Int) (w : World) (h : spec_Sum.f k c = some r) :
  Calls Tryz.prog 98 #[.string c] w fun e w' => e = .returned (.int .i64 r) ∧ Drawn0 w w' := by
 unfold spec_Sum.f at h
 have H := h; clear h
 have H' := M_ H
 clear H
 go_enter Tryz.func98, Tryz.ntmps98
 go_wp2
 go_loopg [3, 4] k (fun kq o p w' => ∃ (b : Int) (a : Int), o = .int .i64 b ∧ p = .int .i64 a ∧ Aside0 (spec_Sum.l0 kq c b a = some r) ∧ Aside0 (kq ≤ k) ∧ Drawn0 w w')
 case atStart => exact ⟨(2166136261), (0), rs_, rs_, H', ⟨Nat.le_refl _⟩, by repeat (first | exact Drawn0.refl _ | apply Drawn0.step)⟩
 case round =>
  clear H'
  obtain ⟨b, a, rfl, rfl, j, d, ⟨m1, rfl⟩⟩ := hrel
  cases gk with
  | zero => exact absurd j.1 (by simp [spec_Sum.l0])
  | succ q =>
   have H := j.1
   clear j
   simp only [spec_Sum.l0] at H
   replace H := ie_ H; rcases H with ⟨g, H⟩ | ⟨g, H⟩
   ·
    have i := decide_eq_true g
    clear g
    replace H := id_ H; obtain ⟨l, H⟩ := H
    have H' := M_ H
    clear H
    obtain ⟨m, n⟩ : 0 ≤ (a : Int) ∧ a < (c.size : Int) := pq_
    have s := bt_at c a
    replace m := eq_true m; replace n := eq_true n
    go_wp2
    go_roundg q
    case measure => have := d.1; omega
    case rel => exact ⟨(Go.bits .and .i64 (wrap64 ((Go.bits .xor .i64 b (wrap64 (bt c a))) * 16777619)) 4294967295), (wrap64 (a + 1)), rs_, rs_, H', ⟨by have := d.1; omega⟩, by repeat (first | exact Drawn0.refl _ | apply Drawn0.step)⟩
   have i : decide (a < (c.size : Int)) = false := decide_eq_false g
   clear g
   obtain rfl := Option.some.inj H
   go_wp2
   go_ret
   exact ⟨by first | rfl | (simp; done) | (simp [*]; done), by repeat (first | exact Drawn0.refl _ | apply Drawn0.step)⟩
def spec_Less.f (a : ByteArray) (b : ByteArray) : Option (Bool) := some (Op.bytesLess a.toList b.toList)
theorem spec_Less.calls (a : ByteArray) (b : ByteArray) (r : Bool) (w : World) (h : spec_Less.f a b = some r) :
  Calls Tryz.prog 128 #[.string a, .string b] w fun e w' => e = .returned (.bool r) ∧ Drawn0 w w' := by
 unfold spec_Less.f at h
 have H := h; clear h
 obtain rfl := Option.some.inj H
 go_enter Tryz.func128, Tryz.ntmps128
 go_wp2
 go_ret
 exact ⟨by first | rfl | (simp; done) | (simp [*]; done), by repeat (first | exact Drawn0.refl _ | apply Drawn0.step)⟩
def spec_PlainOk.l0 : Nat → ByteArray → Int → Option (Bool)
 | 0, _, _ => none
 | k + 1, a, b => if b < (a.size : Int) then (if 0 ≤ b then (if (bt a b) < 32 then (some false) else (if (bt a b) > 126 then (some false) else (if (bt a b) = 34 then (some false) else (if (bt a b) = 92 then (some false) else (spec_PlainOk.l0 k a (wrap64 (b + 1))))))) else (none)) else (some (decide ((a.size : Int) ≤ 12)))
def spec_PlainOk.f (k : Nat) (a : ByteArray) : Option (Bool) := spec_PlainOk.l0 k a 0
theorem spec_PlainOk.calls (k : Nat) (b : ByteArray) (r : Bool) (w : World) (h : spec_PlainOk.f k b = some r) :
  Calls Tryz.prog 122 #[.string b] w fun e w' => e = .returned (.bool r) ∧ Drawn0 w w' := by
 unfold spec_PlainOk.f at h
 have H := h; clear h
 have H' := M_ H
 clear H
 go_enter Tryz.func122, Tryz.ntmps122
 go_wp2
 go_loopg [3] k (fun kq J w' => ∃ (a : Int), J = .int .i64 a ∧ Aside0 (spec_PlainOk.l0 kq b a = some r) ∧ Aside0 (kq ≤ k) ∧ Drawn0 w w')
 case atStart => exact ⟨(0), rs_, H', ⟨Nat.le_refl _⟩, by repeat (first | exact Drawn0.refl _ | apply Drawn0.step)⟩
 case round =>
  clear H'
  obtain ⟨a, rfl, D, o, ⟨m1, rfl⟩⟩ := hrel
  cases gk with
  | zero => exact absurd D.1 (by simp [spec_PlainOk.l0])
  | succ K =>
   have H := D.1
   clear D
   simp only [spec_PlainOk.l0] at H
   replace H := ie_ H; rcases H with ⟨p, H⟩ | ⟨p, H⟩
   ·
    have q := decide_eq_true p
    clear p
    replace H := id_ H; obtain ⟨F, H⟩ := H
    replace H := ie_ H; rcases H with ⟨s, H⟩ | ⟨s, H⟩
    ·
     have t := decide_eq_true s
     clear s
     obtain rfl := Option.some.inj H
     obtain ⟨i, j⟩ : 0 ≤ (a : Int) ∧ a < (b.size : Int) := pq_
     have u := bt_at b a
     replace i := eq_true i; replace j := eq_true j
     go_wp2
     go_ret
     exact ⟨by first | rfl | (simp; done) | (simp [*]; done), by repeat (first | exact Drawn0.refl _ | apply Drawn0.step)⟩
    have t : decide ((bt b a) < 32) = false := decide_eq_false s
    clear s
    replace H := ie_ H; rcases H with ⟨v, H⟩ | ⟨v, H⟩
    ·
     have x : decide (126 < (bt b a)) = true := decide_eq_true v
     clear v
     obtain rfl := Option.some.inj H
     obtain ⟨i, j⟩ : 0 ≤ (a : Int) ∧ a < (b.size : Int) := pq_
     have u := bt_at b a
     replace i := eq_true i; replace j := eq_true j
     obtain ⟨y, z⟩ : 0 ≤ (a : Int) ∧ a < (b.size : Int) := pq_
     have E := bt_at b a
     replace y := eq_true y; replace z := eq_true z
     go_wp2
     go_ret
     exact ⟨by first | rfl | (simp; done) | (simp [*]; done), by repeat (first | exact Drawn0.refl _ | apply Drawn0.step)⟩
    have x : decide (126 < (bt b a)) = false := decide_eq_false v
    clear v
    have AHz_ := M_ H
    clear H
    obtain ⟨i, j⟩ : 0 ≤ (a : Int) ∧ a < (b.size : Int) := pq_
    have u := bt_at b a
    replace i := eq_true i; replace j := eq_true j
    obtain ⟨y, z⟩ : 0 ≤ (a : Int) ∧ a < (b.size : Int) := pq_
    have E := bt_at b a
    replace y := eq_true y; replace z := eq_true z
    obtain ⟨G, I⟩ : 0 ≤ (a : Int) ∧ a < (b.size : Int) := pq_
    have L := bt_at b a
    replace G := eq_true G; replace I := eq_true I
    have H := AHz_.1
    clear AHz_
    replace H := ie_ H; rcases H with ⟨n, H⟩ | ⟨n, H⟩
    ·
     have A : ((bt b a) == 34) = true := beq_iff_eq.mpr n
     have B : ((bt b a) != 34) = false := bne_eq_false_iff_eq.mpr n
     clear n
     obtain rfl := Option.some.inj H
     go_wp2
     go_ret
     exact ⟨by first | rfl | (simp; done) | (simp [*]; done), by repeat (first | exact Drawn0.refl _ | apply Drawn0.step)⟩
    have A : ((bt b a) == 34) = false := beq_eq_false_iff_ne.mpr n
    have B : ((bt b a) != 34) = true := bne_iff_ne.mpr n
    replace H := ie_ H; rcases H with ⟨c, H⟩ | ⟨c, H⟩
    ·
     have l : ((bt b a) == 92) = true := beq_iff_eq.mpr c
     have m : ((bt b a) != 92) = false := bne_eq_false_iff_eq.mpr c
     clear c
     obtain rfl := Option.some.inj H
     obtain ⟨d, g⟩ : 0 ≤ (a : Int) ∧ a < (b.size : Int) := pq_
     have C := bt_at b a
     replace d := eq_true d; replace g := eq_true g
     go_wp2
     go_ret
     exact ⟨by first | rfl | (simp; done) | (simp [*]; done), by repeat (first | exact Drawn0.refl _ | apply Drawn0.step)⟩
    have l : ((bt b a) == 92) = false := beq_eq_false_iff_ne.mpr c
    have m : ((bt b a) != 92) = true := bne_iff_ne.mpr c
    have H' := M_ H
    clear H
    obtain ⟨d, g⟩ : 0 ≤ (a : Int) ∧ a < (b.size : Int) := pq_
    have C := bt_at b a
    replace d := eq_true d; replace g := eq_true g
    go_wp2
    go_roundg K
    case measure => have := o.1; omega
    case rel => exact ⟨(wrap64 (a + 1)), rs_, H', ⟨by have := o.1; omega⟩, by repeat (first | exact Drawn0.refl _ | apply Drawn0.step)⟩
   have q : decide (a < (b.size : Int)) = false := decide_eq_false p
   clear p
   obtain rfl := Option.some.inj H
   go_wp2
   go_ret
   exact ⟨by first | rfl | (simp; done) | (simp [*]; done), by repeat (first | exact Drawn0.refl _ | apply Drawn0.step)⟩
def spec_l1In.f (a : Int) (b : Int) (c : Int) : Option (Bool) := if a ≥ b then (some (decide (a ≤ c))) else (some false)
theorem spec_l1In.calls (c : Int) (d : Int) (g : Int) (r : Bool) (w : World) (h : spec_l1In.f c d g = some r) :
  Calls Tryz.prog 78 #[.int .i64 c, .int .i64 d, .int .i64 g] w fun e w' => e = .returned (.bool r) ∧ Drawn0 w w' := by
 unfold spec_l1In.f at h
 have H := h; clear h
 replace H := ie_ H; rcases H with ⟨a, H⟩ | ⟨a, H⟩
 ·
  have b : decide (d ≤ c) = true := decide_eq_true a
  clear a
  obtain rfl := Option.some.inj H
  go_enter Tryz.func78, Tryz.ntmps78
  go_wp2
  go_ret
  exact ⟨by first | rfl | (simp; done) | (simp [*]; done), by repeat (first | exact Drawn0.refl _ | apply Drawn0.step)⟩
 have b : decide (d ≤ c) = false := decide_eq_false a
 clear a
 obtain rfl := Option.some.inj H
 go_enter Tryz.func78, Tryz.ntmps78
 go_wp2
 go_ret
 exact ⟨by first | rfl | (simp; done) | (simp [*]; done), by repeat (first | exact Drawn0.refl _ | apply Drawn0.step)⟩
def spec_NameOk.l0 : Nat → ByteArray → Int → Option (Bool)
 | 0, _, _ => none
 | k + 1, a, b => if b < (a.size : Int) then (if 0 ≤ b then (if (bt a b) < 97 then (some false) else (if (bt a b) > 122 then (some false) else (spec_NameOk.l0 k a (wrap64 (b + 1))))) else (none)) else ((spec_l1In.f (a.size : Int) 1 8).bind fun c => (some c))
def spec_NameOk.f (k : Nat) (a : ByteArray) : Option (Bool) := spec_NameOk.l0 k a 0
theorem spec_NameOk.calls (k : Nat) (b : ByteArray) (r : Bool) (w : World) (h : spec_NameOk.f k b = some r) :
  Calls Tryz.prog 153 #[.string b] w fun e w' => e = .returned (.bool r) ∧ Drawn0 w w' := by
 unfold spec_NameOk.f at h
 have H := h; clear h
 have H' := M_ H
 clear H
 go_enter Tryz.func153, Tryz.ntmps153
 go_wp2
 go_loopg [3] k (fun kq y w' => ∃ (a : Int), y = .int .i64 a ∧ Aside0 (spec_NameOk.l0 kq b a = some r) ∧ Aside0 (kq ≤ k) ∧ Drawn0 w w')
 case atStart => exact ⟨(0), rs_, H', ⟨Nat.le_refl _⟩, by repeat (first | exact Drawn0.refl _ | apply Drawn0.step)⟩
 case round =>
  clear H'
  obtain ⟨a, rfl, u, g, ⟨m1, rfl⟩⟩ := hrel
  cases gk with
  | zero => exact absurd u.1 (by simp [spec_NameOk.l0])
  | succ z =>
   have H := u.1
   clear u
   simp only [spec_NameOk.l0] at H
   replace H := ie_ H; rcases H with ⟨i, H⟩ | ⟨i, H⟩
   ·
    have j := decide_eq_true i
    clear i
    replace H := id_ H; obtain ⟨x, H⟩ := H
    replace H := ie_ H; rcases H with ⟨l, H⟩ | ⟨l, H⟩
    ·
     have m := decide_eq_true l
     clear l
     obtain rfl := Option.some.inj H
     obtain ⟨c, d⟩ : 0 ≤ (a : Int) ∧ a < (b.size : Int) := pq_
     have n := bt_at b a
     replace c := eq_true c; replace d := eq_true d
     go_wp2
     go_ret
     exact ⟨by first | rfl | (simp; done) | (simp [*]; done), by repeat (first | exact Drawn0.refl _ | apply Drawn0.step)⟩
    have m : decide ((bt b a) < 97) = false := decide_eq_false l
    clear l
    replace H := ie_ H; rcases H with ⟨o, H⟩ | ⟨o, H⟩
    ·
     have p : decide (122 < (bt b a)) = true := decide_eq_true o
     clear o
     obtain rfl := Option.some.inj H
     obtain ⟨c, d⟩ : 0 ≤ (a : Int) ∧ a < (b.size : Int) := pq_
     have n := bt_at b a
     replace c := eq_true c; replace d := eq_true d
     obtain ⟨q, s⟩ : 0 ≤ (a : Int) ∧ a < (b.size : Int) := pq_
     have v := bt_at b a
     replace q := eq_true q; replace s := eq_true s
     go_wp2
     go_ret
     exact ⟨by first | rfl | (simp; done) | (simp [*]; done), by repeat (first | exact Drawn0.refl _ | apply Drawn0.step)⟩
    have p : decide (122 < (bt b a)) = false := decide_eq_false o
    clear o
    have H' := M_ H
    clear H
    obtain ⟨c, d⟩ : 0 ≤ (a : Int) ∧ a < (b.size : Int) := pq_
    have n := bt_at b a
    replace c := eq_true c; replace d := eq_true d
    obtain ⟨q, s⟩ : 0 ≤ (a : Int) ∧ a < (b.size : Int) := pq_
    have v := bt_at b a
    replace q := eq_true q; replace s := eq_true s
    go_wp2
    go_roundg z
    case measure => have := g.1; omega
    case rel => exact ⟨(wrap64 (a + 1)), rs_, H', ⟨by have := g.1; omega⟩, by repeat (first | exact Drawn0.refl _ | apply Drawn0.step)⟩
   have j : decide (a < (b.size : Int)) = false := decide_eq_false i
   clear i
   replace H := bi_ H; obtain ⟨t, A, H⟩ := H
   obtain rfl := Option.some.inj H
   go_wp2_with (first | ((with_reducible refine gate_callee (f := 78) rfl ?_); refine gl_ (some 22) Tryz.func78 #[.int .i64 (b.size : Int), .int .i64 1, .int .i64 8] ?_; (with_reducible refine (spec_l1In.calls (b.size : Int) 1 8 t _ A.1).mono ?_); rintro e w' ⟨rfl, ⟨B, rfl⟩⟩; refine ⟨_, rfl, ?_⟩))
   go_ret
   exact ⟨by first | rfl | (simp; done) | (simp [*]; done), by repeat (first | exact Drawn0.refl _ | apply Drawn0.step)⟩
def spec_LabelOk.f (k : Nat) (a : ByteArray) (b : ByteArray) : Option (Bool) := (spec_NameOk.f k a).bind fun c => (if c = true then ((spec_PlainOk.f k b).bind fun d => (some d)) else (some false))
theorem spec_LabelOk.calls (k : Nat) (a : ByteArray) (b : ByteArray) (r : Bool) (w : World) (h : spec_LabelOk.f k a b = some r) :
  Calls Tryz.prog 136 #[.agg #[.string a, .string b]] w fun e w' => e = .returned (.bool r) ∧ Below w.heap.size w w' := by
 have hu99 := Tryz.underlying99
 have d := M_ (Below.refl w.heap.size w)
 unfold spec_LabelOk.f at h
 have H := h; clear h
 replace H := bi_ H; obtain ⟨g, q, H⟩ := H
 have AHz_ := M_ H
 clear H
 go_enter Tryz.func136, Tryz.ntmps136
 go_wp2_with (first | ((with_reducible refine gd_ 1 rfl ?_); refine bV_ 1 #[.string a, .string b] 99 ?_; intro j hg u c hb; have l := gq_ hg d; replace d := st_ d hb; clear hb hg; obtain ⟨m, n, o, p⟩ := bc2_ c.1) | (((with_reducible refine gate_callee (f := 153) rfl ?_); refine gl_ (some 5) Tryz.func153 #[.string a] ?_; (with_reducible refine (spec_NameOk.calls k a g _ q.1).mono ?_); rintro e w' ⟨rfl, ⟨s, rfl⟩⟩; refine ⟨_, rfl, ?_⟩); refine Aside0.out ?_))
 have H := AHz_.1
 clear AHz_
 replace H := ib_ H; rcases H with ⟨rfl, H⟩ | ⟨rfl, H⟩
 ·
  replace H := bi_ H; obtain ⟨i, t, H⟩ := H
  obtain rfl := Option.some.inj H
  refine ⟨?_⟩
  go_wp2_with (first | (go_at_call 122; (with_reducible refine (spec_PlainOk.calls k b i _ t.1).mono ?_); rintro e w' ⟨rfl, ⟨s, rfl⟩⟩))
  go_ret
  exact an_ (hs_ d.1)
 obtain rfl := Option.some.inj H
 refine ⟨?_⟩
 go_wp2
 go_ret
 exact an_ (hs_ d.1)
def spec_SetOk.l0 : Nat → List (S99) → Int → Option (Bool)
 | 0, _, _ => none
 | k + 1, b, a => if a < (b.length : Int) then (if 0 ≤ a then ((spec_LabelOk.f k ((rd_T99 b a).f0) ((rd_T99 b a).f1)).bind fun c => (if c = true then (if a > 0 then (if 0 ≤ (wrap64 (a - 1)) then (if (wrap64 (a - 1)) < (b.length : Int) then ((spec_Less.f ((rd_T99 b (wrap64 (a - 1))).f0) ((rd_T99 b a).f0)).bind fun d => (if d = true then (spec_SetOk.l0 k b (wrap64 (a + 1))) else (some false))) else (none)) else (none)) else (spec_SetOk.l0 k b (wrap64 (a + 1)))) else (some false))) else (none)) else (some (decide ((b.length : Int) ≤ 4)))
def spec_SetOk.f (k : Nat) (l0 : List (S99)) : Option (Bool) := spec_SetOk.l0 k l0 0
def spec_SetOk.T4 : Bool × List (List Nat × List Nat) := (true, [([], []), ([], []), ([0, 1], [0, 1]), ([2], [2]), ([3], [3]), ([4], [4]), ([5, 4], [5]), ([6], [6]), ([7, 6], [6, 7]), ([8, 6, 6], [6, 8]), ([9], [9]), ([9], [9]), ([11, 9], [9, 11]), ([10, 12, 9], [9, 10, 12]), ([13, 9], [9, 13]), ([14, 9], [9, 14]), ([9], [9]), ([9], [9]), ([16, 17, 9], [9, 16, 17]), ([18, 9], [9, 18]), ([19, 9], [9, 19]), ([15, 20, 9, 9], [9, 15, 20]), ([21, 9], [9, 21]), ([9, 22, 6], [6, 9, 22]), ([6, 23], [6, 23])])
def spec_SetOk.B4 : List Nat := [0, 0, 3, 7, 15, 31, 63, 127, 255, 511, 1023, 1023, 3071, 8191, 16383, 32767, 1023, 1023, 197631, 459775, 984063, 2097151, 4194303, 8388607, 16777215]
theorem spec_SetOk.tab4 : rtab .any (opsOf Tryz.f118 4) = spec_SetOk.T4 := by kernel_rfl
theorem spec_SetOk.bits4 : waitsOk spec_SetOk.T4.2 spec_SetOk.B4 = true := by kernel_rfl
theorem spec_SetOk.calls (k : Nat) (A0 : Option Addr) (c0 : Nat) (l0 : List (S99)) (r : Bool) (w : World) (R : Kd.C k99 w A0 l0.length l0) (T : l0.length ≤ c0) (h : spec_SetOk.f k l0 = some r) :
  Calls Tryz.prog 118 #[.slice A0 l0.length c0] w fun e w' => e = .returned (.bool r) ∧ Below w.heap.size w w' := by
 have hu99 := Tryz.underlying99
 have M := M_ R
 have la := M_ T
 clear R T
 have l := M_ (Below.refl w.heap.size w)
 unfold spec_SetOk.f at h
 have H := h; clear h
 have H' := M_ H
 clear H
 go_enter Tryz.func118, Tryz.ntmps118
 go_wp2
 go_loopg [3] k (fun kq v3 w' => ∃ (a : Int), v3 = .int .i64 a ∧ Aside0 (spec_SetOk.l0 kq l0 a = some r) ∧ Aside0 (kq ≤ k) ∧ Aside0 (Below w.heap.size w w'))
 case atStart => exact ⟨(0), rs_, H', ⟨Nat.le_refl _⟩, ⟨hs_ l.1⟩⟩
 case round =>
  clear H'
  obtain ⟨a, rfl, HA, L, l⟩ := hrel
  cases gk with
  | zero => exact absurd HA.1 (by simp [spec_SetOk.l0])
  | succ Q =>
   have H := HA.1
   clear HA
   simp only [spec_SetOk.l0] at H
   replace H := ie_ H; rcases H with ⟨U, H⟩ | ⟨U, H⟩
   ·
    have V := decide_eq_true U
    clear U
    replace H := id_ H; obtain ⟨ha, H⟩ := H
    replace H := bi_ H; obtain ⟨ia, A4, H⟩ := H
    have AHz_ := M_ H
    clear H
    try go_wp2
    replace l := db_ l
    obtain ⟨B, D⟩ : 0 ≤ (a : Int) ∧ a < (l0.length : Int) := pq_
    obtain ⟨j, W, i, m⟩ := at_T99 M.1 a B D
    have b := m
    have c := i
    cases W
    replace i := c2_ l i m; clear m; obtain ⟨i, m⟩ := i
    replace B := eq_true B; replace D := eq_true D
    have H := AHz_.1
    clear AHz_
    replace H := ib_ H; rcases H with ⟨rfl, H⟩ | ⟨rfl, H⟩
    ·
     replace H := ie_ H; rcases H with ⟨X, H⟩ | ⟨X, H⟩
     ·
      have Y : decide (0 < a) = true := decide_eq_true X
      clear X
      obtain ⟨y, z⟩ : ∃ j_ : Int, (wrap64 (a - 1)) = j_ := ⟨_, rfl⟩
      replace H : (if 0 ≤ (y) then (if (y) < (l0.length : Int) then ((spec_Less.f ((rd_T99 l0 (y)).f0) ((rd_T99 l0 a).f0)).bind fun E => (if E = true then (spec_SetOk.l0 Q l0 (wrap64 (a + 1))) else (some false))) else (none)) else (none)) = some r := by first | (rw [z] at H; exact H) | (simp only [z] at H ⊢; exact H)
      (try rw [z] at A4)
      have da : (IntKind.i64.wrap (a - 1)) = y := (i64_w _).trans z
      replace H := i2_ H; obtain ⟨ja, ka, H⟩ := H
      replace H := bi_ H; obtain ⟨E, ea, H⟩ := H
      have AHz_ := M_ H
      clear H
      obtain ⟨F, G⟩ : 0 ≤ ((y) : Int) ∧ (y) < (l0.length : Int) := pq_
      obtain ⟨N, Z, o, v⟩ := at_T99 M.1 (y) F G
      have p := v
      have q := o
      obtain rfl : j = N := (by injection Z)
      replace o := c2_ l o v; clear v; obtain ⟨o, v⟩ := o
      replace F := eq_true F; replace G := eq_true G
      obtain ⟨I, J⟩ : 0 ≤ (a : Int) ∧ a < (l0.length : Int) := pq_
      obtain ⟨O, aa, s, x⟩ := at_T99 M.1 a I J
      have t := x
      have u := s
      obtain rfl : j = O := (by injection aa)
      replace s := c2_ l s x; clear x; obtain ⟨s, x⟩ := s
      replace I := eq_true I; replace J := eq_true J
      refine start_ (n := 25) (S := fun w' => w'.cell? (j.add ((a).toNat * 2)) = some (.string ((rd_T99 l0 a).f0)) ∧ d_ w' (j.add ((a).toNat * 2)) 1 (.string ((rd_T99 l0 a).f1)) ∧ w'.cell? (j.add (((y)).toNat * 2)) = some (.string ((rd_T99 l0 (y)).f0)) ∧ d_ w' (j.add (((y)).toNat * 2)) 1 (.string ((rd_T99 l0 (y)).f1)) ∧ w'.cell? (j.add ((a).toNat * 2)) = some (.string ((rd_T99 l0 a).f0)) ∧ d_ w' (j.add ((a).toNat * 2)) 1 (.string ((rd_T99 l0 a).f1))) (ds := []) (b_ 0 25) (by kernel_rfl) rfl rfl ⟨((l.1.cell (World.block_lt_of_cell? w _ c)).trans c), ((l.1.cell (World.block_lt_of_cell? w _ b)).trans b), ((l.1.cell (World.block_lt_of_cell? w _ q)).trans q), ((l.1.cell (World.block_lt_of_cell? w _ p)).trans p), ((l.1.cell (World.block_lt_of_cell? w _ u)).trans u), ((l.1.cell (World.block_lt_of_cell? w _ t)).trans t)⟩ (fun g => ?_); refine with_tabW spec_SetOk.tab4 spec_SetOk.bits4 (fun d A => ?_)
      generalize wr.drew = na at l i m o v s x g ⊢
      iterate 3 refine p_ d ?_
      refine t0_ d A g ?_
      refine o1_ 4 (b_ 5 20) d (fun K P => ?_)
      refine gs_ Tryz.func136 #[.agg #[.string ((rd_T99 l0 a).f0), .string ((rd_T99 l0 a).f1)]] ?_
      with_reducible refine (spec_LabelOk.calls Q ((rd_T99 l0 a).f0) ((rd_T99 l0 a).f1) true _ A4.1).mono ?_
      rintro e oa ⟨rfl, hb⟩
      refine ⟨_, rfl, ?_⟩
      replace l := st_ l hb
      (try clear hb)
      refine ho_ P ⟨((l.1.cell (World.block_lt_of_cell? w _ c)).trans c), ((l.1.cell (World.block_lt_of_cell? w _ b)).trans b), ((l.1.cell (World.block_lt_of_cell? w _ q)).trans q), ((l.1.cell (World.block_lt_of_cell? w _ p)).trans p), ((l.1.cell (World.block_lt_of_cell? w _ u)).trans u), ((l.1.cell (World.block_lt_of_cell? w _ t)).trans t)⟩ (fun g => ?_)
      iterate 10 refine p_ d ?_
      refine qw_ 16 (m_ 25 98303) d ?_
      refine qw_ 17 (m_ 25 229375) d ?_
      refine qw_ 18 (m_ 25 491519) d ?_
      refine qw_ 19 (m_ 25 1015807) d ?_
      refine qt_ 15 (b_ 20 5) d A g ?_
      refine t0_ d A g ?_
      refine o1_ 21 (b_ 22 3) d (fun K P => ?_)
      refine goes_ Tryz.func128 (by kernel_rfl) rfl #[.string ((rd_T99 l0 (y)).f0), .string ((rd_T99 l0 a).f0)] (by rfl) rfl rfl (by (try simp only [mp_]); first | done | (simp only [z]; rfl) | rfl | (simp only [List.length_drop, List.length_take]; rfl)) ?_
      with_reducible refine (spec_Less.calls ((rd_T99 l0 (y)).f0) ((rd_T99 l0 a).f0) E _ ea.1).mono ?_
      rintro e w' ⟨rfl, ⟨nd, rfl⟩⟩
      refine ⟨_, rfl, ?_⟩
      refine ho_ P ⟨((l.1.cell (World.block_lt_of_cell? w _ c)).trans c), ((l.1.cell (World.block_lt_of_cell? w _ b)).trans b), ((l.1.cell (World.block_lt_of_cell? w _ q)).trans q), ((l.1.cell (World.block_lt_of_cell? w _ p)).trans p), ((l.1.cell (World.block_lt_of_cell? w _ u)).trans u), ((l.1.cell (World.block_lt_of_cell? w _ t)).trans t)⟩ (fun g => ?_)
      iterate 3 refine p_ d ?_
      have H := AHz_.1
      clear AHz_
      replace H := ib_ H; rcases H with ⟨rfl, H⟩ | ⟨rfl, H⟩
      ·
       have H' := M_ H
       clear H
       refine done_ (done_of d.1 (by kernel_rfl)) ?_
       try go_wp2
       go_roundg Q
       case measure => have := L.1; omega
       case rel => exact ⟨(wrap64 (a + 1)), rs_, H', ⟨by have := L.1; omega⟩, ⟨hs_ l.1⟩⟩
      obtain rfl := Option.some.inj H
      refine done_ (done_of d.1 (by kernel_rfl)) ?_
      try go_wp2
      go_ret
      exact ⟨by first | rfl | (simp [errW_none, errW_some] <;> rfl) | (simp only [← z]; first | rfl | (simp [errW_none, errW_some] <;> rfl)) | (simp [*, errW_none, errW_some] <;> rfl), hs_ l.1⟩
     have Y : decide (0 < a) = false := decide_eq_false X
     clear X
     have H' := M_ H
     clear H
     refine start_ (n := 25) (S := fun w' => w'.cell? (j.add ((a).toNat * 2)) = some (.string ((rd_T99 l0 a).f0)) ∧ d_ w' (j.add ((a).toNat * 2)) 1 (.string ((rd_T99 l0 a).f1))) (ds := []) (b_ 0 25) (by kernel_rfl) rfl rfl ⟨((l.1.cell (World.block_lt_of_cell? w _ c)).trans c), ((l.1.cell (World.block_lt_of_cell? w _ b)).trans b)⟩ (fun g => ?_); refine with_tabW spec_SetOk.tab4 spec_SetOk.bits4 (fun d A => ?_)
     generalize wr.drew = pa at l i m g ⊢
     iterate 3 refine p_ d ?_
     refine t0_ d A g ?_
     refine o1_ 4 (b_ 5 20) d (fun K P => ?_)
     refine gs_ Tryz.func136 #[.agg #[.string ((rd_T99 l0 a).f0), .string ((rd_T99 l0 a).f1)]] ?_
     with_reducible refine (spec_LabelOk.calls Q ((rd_T99 l0 a).f0) ((rd_T99 l0 a).f1) true _ A4.1).mono ?_
     rintro e qa ⟨rfl, hb⟩
     refine ⟨_, rfl, ?_⟩
     replace l := st_ l hb
     (try clear hb)
     refine ho_ P ⟨((l.1.cell (World.block_lt_of_cell? w _ c)).trans c), ((l.1.cell (World.block_lt_of_cell? w _ b)).trans b)⟩ (fun g => ?_)
     iterate 5 refine p_ d ?_
     iterate 13 refine v_ d ?_
     iterate 2 refine p_ d ?_
     refine done_ (done_of d.1 (by kernel_rfl)) ?_
     try go_wp2
     go_roundg Q
     case measure => have := L.1; omega
     case rel => exact ⟨(wrap64 (a + 1)), rs_, H', ⟨by have := L.1; omega⟩, ⟨hs_ l.1⟩⟩
    obtain rfl := Option.some.inj H
    refine start_ (n := 25) (S := fun w' => w'.cell? (j.add ((a).toNat * 2)) = some (.string ((rd_T99 l0 a).f0)) ∧ d_ w' (j.add ((a).toNat * 2)) 1 (.string ((rd_T99 l0 a).f1))) (ds := []) (b_ 0 25) (by kernel_rfl) rfl rfl ⟨((l.1.cell (World.block_lt_of_cell? w _ c)).trans c), ((l.1.cell (World.block_lt_of_cell? w _ b)).trans b)⟩ (fun g => ?_); refine with_tabW spec_SetOk.tab4 spec_SetOk.bits4 (fun d A => ?_)
    generalize wr.drew = ra at l i m g ⊢
    iterate 3 refine p_ d ?_
    refine t0_ d A g ?_
    refine o1_ 4 (b_ 5 20) d (fun K P => ?_)
    refine gs_ Tryz.func136 #[.agg #[.string ((rd_T99 l0 a).f0), .string ((rd_T99 l0 a).f1)]] ?_
    with_reducible refine (spec_LabelOk.calls Q ((rd_T99 l0 a).f0) ((rd_T99 l0 a).f1) false _ A4.1).mono ?_
    rintro e sa ⟨rfl, hb⟩
    refine ⟨_, rfl, ?_⟩
    replace l := st_ l hb
    (try clear hb)
    refine ho_ P ⟨((l.1.cell (World.block_lt_of_cell? w _ c)).trans c), ((l.1.cell (World.block_lt_of_cell? w _ b)).trans b)⟩ (fun g => ?_)
    iterate 2 refine p_ d ?_
    iterate 17 refine v_ d ?_
    refine p_ d ?_
    refine done_ (done_of d.1 (by kernel_rfl)) ?_
    try go_wp2
    go_ret
    exact an_ (hs_ l.1)
   have V : decide (a < (l0.length : Int)) = false := decide_eq_false U
   clear U
   obtain rfl := Option.some.inj H
   go_wp2
   go_ret
   exact an_ (hs_ l.1)
def spec_SetText.l0 : Nat → List (S99) → ByteArray → Int → Option (ByteArray)
 | 0, _, _, _ => none
 | k + 1, b, c, a => if a < (b.length : Int) then (if a > 0 then (if c.size + 2 ≤ 9223372036854775807 then (if 0 ≤ a then (if (c ++ (⟨#[44, 32]⟩ : ByteArray)).size + ((rd_T99 b a).f0).size ≤ 9223372036854775807 then (if ((c ++ (⟨#[44, 32]⟩ : ByteArray)) ++ ((rd_T99 b a).f0)).size + 2 ≤ 9223372036854775807 then (if (((c ++ (⟨#[44, 32]⟩ : ByteArray)) ++ ((rd_T99 b a).f0)) ++ (⟨#[61, 34]⟩ : ByteArray)).size + ((rd_T99 b a).f1).size ≤ 9223372036854775807 then (if ((((c ++ (⟨#[44, 32]⟩ : ByteArray)) ++ ((rd_T99 b a).f0)) ++ (⟨#[61, 34]⟩ : ByteArray)) ++ ((rd_T99 b a).f1)).size + 1 ≤ 9223372036854775807 then (spec_SetText.l0 k b (((((c ++ (⟨#[44, 32]⟩ : ByteArray)) ++ ((rd_T99 b a).f0)) ++ (⟨#[61, 34]⟩ : ByteArray)) ++ ((rd_T99 b a).f1)) ++ (⟨#[34]⟩ : ByteArray)) (wrap64 (a + 1))) else (none)) else (none)) else (none)) else (none)) else (none)) else (none)) else (if 0 ≤ a then (if c.size + ((rd_T99 b a).f0).size ≤ 9223372036854775807 then (if (c ++ ((rd_T99 b a).f0)).size + 2 ≤ 9223372036854775807 then (if ((c ++ ((rd_T99 b a).f0)) ++ (⟨#[61, 34]⟩ : ByteArray)).size + ((rd_T99 b a).f1).size ≤ 9223372036854775807 then (if (((c ++ ((rd_T99 b a).f0)) ++ (⟨#[61, 34]⟩ : ByteArray)) ++ ((rd_T99 b a).f1)).size + 1 ≤ 9223372036854775807 then (spec_SetText.l0 k b ((((c ++ ((rd_T99 b a).f0)) ++ (⟨#[61, 34]⟩ : ByteArray)) ++ ((rd_T99 b a).f1)) ++ (⟨#[34]⟩ : ByteArray)) (wrap64 (a + 1))) else (none)) else (none)) else (none)) else (none)) else (none))) else (if c.size + 1 ≤ 9223372036854775807 then (some (c ++ (⟨#[125]⟩ : ByteArray))) else (none))
def spec_SetText.f (k : Nat) (l0 : List (S99)) : Option (ByteArray) := (spec_SetOk.f k l0).bind fun a => (if a = true then (spec_SetText.l0 k l0 (⟨#[123]⟩ : ByteArray) 0) else (some (⟨#[]⟩ : ByteArray)))
theorem spec_SetText.calls (k : Nat) (A0 : Option Addr) (c0 : Nat) (l0 : List (S99)) (r : ByteArray) (w : World) (G : Kd.C k99 w A0 l0.length l0) (I : l0.length ≤ c0) (h : spec_SetText.f k l0 = some r) :
  Calls Tryz.prog 99 #[.slice A0 l0.length c0] w fun e w' => e = .returned (.string r) ∧ Below w.heap.size w w' := by
 have d := M_ G
 have o := M_ I
 clear G I
 have c := M_ (Below.refl w.heap.size w)
 unfold spec_SetText.f at h
 have H := h; clear h
 replace H := bi_ H; obtain ⟨J, K, H⟩ := H
 have AHz_ := M_ H
 clear H
 go_enter Tryz.func99, Tryz.ntmps99
 go_wp2_with (first | ((go_at_call 118; (with_reducible refine (spec_SetOk.calls k _ _ l0 J _ ?_ ?_ K.1).mono ?_); exact cp_ (d.1); exact o.1; rintro e w4 ⟨rfl, hb⟩; replace c := st_ c hb; (try clear hb)); refine Aside0.out ?_))
 have H := AHz_.1
 clear AHz_
 replace H := ib_ H; rcases H with ⟨rfl, H⟩ | ⟨rfl, H⟩
 ·
  have H' := M_ H
  clear H
  refine ⟨?_⟩
  go_wp2
  repeat (go_quiet (first | (go_at_call 118; (with_reducible refine (spec_SetOk.calls k _ _ l0 true _ ?_ ?_ K.1).mono ?_); exact cp_ (d.1); exact o.1; rintro e w4 ⟨rfl, hb⟩; replace c := st_ c hb; (try clear hb))); try go_wp2_with (first | (go_at_call 118; (with_reducible refine (spec_SetOk.calls k _ _ l0 true _ ?_ ?_ K.1).mono ?_); exact cp_ (d.1); exact o.1; rintro e w4 ⟨rfl, hb⟩; replace c := st_ c hb; (try clear hb))))
  go_loopg [3, 4] k (fun kq v3 v4 w' => ∃ (b : ByteArray) (a : Int), v3 = .string b ∧ v4 = .int .i64 a ∧ Aside0 (spec_SetText.l0 kq l0 b a = some r) ∧ Aside0 (kq ≤ k) ∧ Aside0 (Below w.heap.size w w'))
  case atStart => exact ⟨((⟨#[123]⟩ : ByteArray)), (0), rs_, rs_, H', ⟨Nat.le_refl _⟩, ⟨hs_ c.1⟩⟩
  case round =>
   clear H'
   obtain ⟨b, a, rfl, rfl, HA, q, c⟩ := hrel
   cases gk with
   | zero => exact absurd HA.1 (by simp [spec_SetText.l0])
   | succ k1 =>
    have H := HA.1
    clear HA
    simp only [spec_SetText.l0] at H
    replace H := ie_ H; rcases H with ⟨L, H⟩ | ⟨L, H⟩
    ·
     have M := decide_eq_true L
     clear L
     replace H := ie_ H; rcases H with ⟨N, H⟩ | ⟨N, H⟩
     ·
      have O : decide (0 < a) = true := decide_eq_true N
      clear N
      replace H := in_ H; obtain ⟨c7, H⟩ := H
      have Za := eq_true c7
      have ab := decide_eq_true c7
      try have bb : (9223372036854775807 < b.size + 2) = False := eq_false (Nat.not_lt.2 c7)
      replace H := id_ H; obtain ⟨cb, H⟩ := H
      replace H := in_ H; obtain ⟨c9, H⟩ := H
      have db := eq_true c9
      have eb := decide_eq_true c9
      try have fb : (9223372036854775807 < (b ++ (⟨#[44, 32]⟩ : ByteArray)).size + ((rd_T99 l0 a).f0).size) = False := eq_false (Nat.not_lt.2 c9)
      have p := c9
      simp only [ByteArray.size_append, show (⟨#[44, 32]⟩ : ByteArray).size = 2 from rfl] at p
      have gb := eq_false (Nat.not_lt.2 p)
      have ib := decide_eq_true p
      have jb := eq_true p
      clear p
      replace H := in_ H; obtain ⟨s, H⟩ := H
      have fa := eq_true s
      have ga := decide_eq_true s
      try have ha : (9223372036854775807 < ((b ++ (⟨#[44, 32]⟩ : ByteArray)) ++ ((rd_T99 l0 a).f0)).size + 2) = False := eq_false (Nat.not_lt.2 s)
      have g := s
      simp only [ByteArray.size_append, show (⟨#[44, 32]⟩ : ByteArray).size = 2 from rfl] at g
      have ia := eq_false (Nat.not_lt.2 g)
      have ja := decide_eq_true g
      have ka := eq_true g
      clear g
      replace H := in_ H; obtain ⟨t, H⟩ := H
      have la := eq_true t
      have ma := decide_eq_true t
      try have na : (9223372036854775807 < (((b ++ (⟨#[44, 32]⟩ : ByteArray)) ++ ((rd_T99 l0 a).f0)) ++ (⟨#[61, 34]⟩ : ByteArray)).size + ((rd_T99 l0 a).f1).size) = False := eq_false (Nat.not_lt.2 t)
      have i := t
      simp only [ByteArray.size_append, show (⟨#[44, 32]⟩ : ByteArray).size = 2 from rfl, show (⟨#[61, 34]⟩ : ByteArray).size = 2 from rfl] at i
      have oa := eq_false (Nat.not_lt.2 i)
      have pa := decide_eq_true i
      have qa := eq_true i
      clear i
      replace H := in_ H; obtain ⟨u, H⟩ := H
      have ra := eq_true u
      have sa := decide_eq_true u
      try have ta : (9223372036854775807 < ((((b ++ (⟨#[44, 32]⟩ : ByteArray)) ++ ((rd_T99 l0 a).f0)) ++ (⟨#[61, 34]⟩ : ByteArray)) ++ ((rd_T99 l0 a).f1)).size + 1) = False := eq_false (Nat.not_lt.2 u)
      have j := u
      simp only [ByteArray.size_append, show (⟨#[44, 32]⟩ : ByteArray).size = 2 from rfl, show (⟨#[61, 34]⟩ : ByteArray).size = 2 from rfl] at j
      have ua := eq_false (Nat.not_lt.2 j)
      have va := decide_eq_true j
      have wa := eq_true j
      clear j
      have H' := M_ H
      clear H
      obtain ⟨z, P, Q, R, kb, lb⟩ := au_T99 d.1 c a
      cases P
      obtain ⟨A, S, T, U, mb, nb⟩ := au_T99 d.1 c a
      obtain rfl : z = A := (by injection S)
      go_wp2
      repeat (go_quiet (fail); try go_wp2)
      go_roundg k1
      case measure => have := q.1; omega
      case rel => exact ⟨(((((b ++ (⟨#[44, 32]⟩ : ByteArray)) ++ ((rd_T99 l0 a).f0)) ++ (⟨#[61, 34]⟩ : ByteArray)) ++ ((rd_T99 l0 a).f1)) ++ (⟨#[34]⟩ : ByteArray)), (wrap64 (a + 1)), rs_, rs_, H', ⟨by have := q.1; omega⟩, ⟨hs_ c.1⟩⟩
     have O : decide (0 < a) = false := decide_eq_false N
     clear N
     replace H := id_ H; obtain ⟨xa, H⟩ := H
     replace H := in_ H; obtain ⟨B, H⟩ := H
     have ya := eq_true B
     have za := decide_eq_true B
     try have Aa : (9223372036854775807 < b.size + ((rd_T99 l0 a).f0).size) = False := eq_false (Nat.not_lt.2 B)
     replace H := in_ H; obtain ⟨v, H⟩ := H
     have Ba := eq_true v
     have Ca := decide_eq_true v
     try have Da : (9223372036854775807 < (b ++ ((rd_T99 l0 a).f0)).size + 2) = False := eq_false (Nat.not_lt.2 v)
     have l := v
     simp only [ByteArray.size_append] at l
     have Ea := eq_false (Nat.not_lt.2 l)
     have Fa := decide_eq_true l
     have Ga := eq_true l
     clear l
     replace H := in_ H; obtain ⟨x, H⟩ := H
     have Ha := eq_true x
     have Ia := decide_eq_true x
     try have Ja : (9223372036854775807 < ((b ++ ((rd_T99 l0 a).f0)) ++ (⟨#[61, 34]⟩ : ByteArray)).size + ((rd_T99 l0 a).f1).size) = False := eq_false (Nat.not_lt.2 x)
     have m := x
     simp only [ByteArray.size_append, show (⟨#[61, 34]⟩ : ByteArray).size = 2 from rfl] at m
     have Ka := eq_false (Nat.not_lt.2 m)
     have La := decide_eq_true m
     have Ma := eq_true m
     clear m
     replace H := in_ H; obtain ⟨y, H⟩ := H
     have Na := eq_true y
     have Oa := decide_eq_true y
     try have Pa : (9223372036854775807 < (((b ++ ((rd_T99 l0 a).f0)) ++ (⟨#[61, 34]⟩ : ByteArray)) ++ ((rd_T99 l0 a).f1)).size + 1) = False := eq_false (Nat.not_lt.2 y)
     have n := y
     simp only [ByteArray.size_append, show (⟨#[61, 34]⟩ : ByteArray).size = 2 from rfl] at n
     have Qa := eq_false (Nat.not_lt.2 n)
     have Ra := decide_eq_true n
     have Sa := eq_true n
     clear n
     have H' := M_ H
     clear H
     obtain ⟨D, V, W, X, ob, pb⟩ := au_T99 d.1 c a
     cases V
     obtain ⟨E, Y, Z, aa, qb, rb⟩ := au_T99 d.1 c a
     obtain rfl : D = E := (by injection Y)
     go_wp2
     repeat (go_quiet (fail); try go_wp2)
     go_roundg k1
     case measure => have := q.1; omega
     case rel => exact ⟨((((b ++ ((rd_T99 l0 a).f0)) ++ (⟨#[61, 34]⟩ : ByteArray)) ++ ((rd_T99 l0 a).f1)) ++ (⟨#[34]⟩ : ByteArray)), (wrap64 (a + 1)), rs_, rs_, H', ⟨by have := q.1; omega⟩, ⟨hs_ c.1⟩⟩
    have M : decide (a < (l0.length : Int)) = false := decide_eq_false L
    clear L
    replace H := in_ H; obtain ⟨F, H⟩ := H
    have Ta := eq_true F
    have Ua := decide_eq_true F
    try have Va : (9223372036854775807 < b.size + 1) = False := eq_false (Nat.not_lt.2 F)
    obtain rfl := Option.some.inj H
    go_wp2
    repeat (go_quiet (fail); try go_wp2)
    go_ret
    exact an_ (hs_ c.1)
 obtain rfl := Option.some.inj H
 refine ⟨?_⟩
 go_wp2
 repeat (go_quiet (first | (go_at_call 118; (with_reducible refine (spec_SetOk.calls k _ _ l0 false _ ?_ ?_ K.1).mono ?_); exact cp_ (d.1); exact o.1; rintro e w4 ⟨rfl, hb⟩; replace c := st_ c hb; (try clear hb))); try go_wp2_with (first | (go_at_call 118; (with_reducible refine (spec_SetOk.calls k _ _ l0 false _ ?_ ?_ K.1).mono ?_); exact cp_ (d.1); exact o.1; rintro e w4 ⟨rfl, hb⟩; replace c := st_ c hb; (try clear hb))))
 go_ret
 exact an_ (hs_ c.1)
def spec_Finger.f (k : Nat) (c : List (S99)) : Option (Int) := (spec_SetText.f k c).bind fun b => ((spec_Sum.f k b).bind fun a => (some (Int.tmod (Go.bits .xor .i64 a (a / 65536)) 32)))
theorem spec_Finger.calls (k : Nat) (i : Option Addr) (j : Nat) (b : List (S99)) (r : Int) (w : World) (c : Kd.C k99 w i b.length b) (d : b.length ≤ j) (h : spec_Finger.f k b = some r) :
  Calls Tryz.prog 60 #[.slice i b.length j] w fun e w' => e = .returned (.int .i64 r) ∧ Below w.heap.size w w' := by
 have l := M_ c
 have m := M_ d
 clear c d
 have n := M_ (Below.refl w.heap.size w)
 unfold spec_Finger.f at h
 have H := h; clear h
 replace H := bi_ H; obtain ⟨a, o, H⟩ := H
 replace H := bi_ H; obtain ⟨g, p, H⟩ := H
 obtain rfl := Option.some.inj H
 go_enter Tryz.func60, Tryz.ntmps60
 go_wp2_with (first | ((with_reducible refine gate_callee (f := 99) rfl ?_); refine gl_ (some 5) Tryz.func99 #[.slice i b.length j] ?_; (with_reducible refine (spec_SetText.calls k _ _ b a _ ?_ ?_ o.1).mono ?_); exact cp_ (l.1); exact m.1; rintro e q ⟨rfl, hb⟩; refine ⟨_, rfl, ?_⟩; replace n := st_ n hb; (try clear hb)) | ((with_reducible refine gate_callee (f := 98) rfl ?_); refine gl_ (some 6) Tryz.func98 #[.string a] ?_; (with_reducible refine (spec_Sum.calls k a g _ p.1).mono ?_); rintro e w' ⟨rfl, ⟨s, rfl⟩⟩; refine ⟨_, rfl, ?_⟩))
 go_ret
 exact an_ (hs_ n.1)
def spec_l7At.l0 : Nat → Int → Int → Int → Int → List (S80) → Option (Int)
 | 0, _, _, _, _, _ => none
 | k + 1, e, d, b, c, a => if d < (a.length : Int) then (if 0 ≤ d then (if ((rd_T80 a d).f0) = e then (some d) else (spec_l7At.l0 k e (wrap64 (d + 1)) b c a)) else (none)) else (some (-1))
def spec_l7At.f (k : Nat) (a : Int) (b : Int) (c : List (S80)) (d : Int) : Option (Int) := spec_l7At.l0 k d 0 a b c
theorem spec_l7At.calls (k : Nat) (d : Int) (g : Int) (i : Option Addr) (j : Nat) (a : List (S80)) (o : Int) (r : Int) (w : World) (l : Kd.C k80 w i a.length a) (m : a.length ≤ j) (h : spec_l7At.f k d g a o = some r) :
  Calls Tryz.prog 61 #[.agg #[.int .i64 d, .int .i64 g, .slice i a.length j], .int .i64 o] w fun e w' => e = .returned (.int .i64 r) ∧ Below w.heap.size w w' := by
 have hu26 := Tryz.underlying26
 have p := M_ l
 have I := M_ m
 clear l m
 have n := M_ (Below.refl w.heap.size w)
 unfold spec_l7At.f at h
 have H := h; clear h
 have H' := M_ H
 clear H
 go_enter Tryz.func61, Tryz.ntmps61
 go_wp2_with (first | ((with_reducible refine gd_ 2 rfl ?_); refine bV_ 2 #[.int .i64 d, .int .i64 g, .slice i a.length j] 26 ?_; intro q hg w3 c hb; have J := gq_ hg n; replace n := st_ n hb; clear hb hg))
 go_loopg [5] k (fun kq v5 w' => ∃ (b : Int), v5 = .int .i64 b ∧ Aside0 (spec_l7At.l0 kq o b d g a = some r) ∧ Aside0 (kq ≤ k) ∧ Aside0 (w'.heap[q]? = some (.cells #[.int .i64 d, .int .i64 g, (.slice i a.length j)] 26 (0, 0))) ∧ Aside0 (Below w.heap.size w w'))
 case atStart => exact ⟨(0), rs_, H', ⟨Nat.le_refl _⟩, ⟨bq_ c.1⟩, ⟨hs_ n.1⟩⟩
 case round =>
  clear H'
  obtain ⟨b, rfl, K, t, c, n⟩ := hrel
  cases gk with
  | zero => exact absurd K.1 (by simp [spec_l7At.l0])
  | succ k1 =>
   have H := K.1
   clear K
   simp only [spec_l7At.l0] at H
   replace H := ie_ H; rcases H with ⟨u, H⟩ | ⟨u, H⟩
   ·
    have v := decide_eq_true u
    clear u
    replace H := id_ H; obtain ⟨M, H⟩ := H
    have AHz_ := M_ H
    clear H
    obtain ⟨N, O, P, Q, R, S⟩ := bc3_ c.1
    obtain ⟨L, F, G, x, y, z, A, B, T, U⟩ := au_T80 p.1 n b
    cases x
    have H := AHz_.1
    clear AHz_
    replace H := ie_ H; rcases H with ⟨s, H⟩ | ⟨s, H⟩
    ·
     have D : (((rd_T80 a b).f0) == o) = true := beq_iff_eq.mpr s
     have E : (((rd_T80 a b).f0) != o) = false := bne_eq_false_iff_eq.mpr s
     clear s
     obtain rfl := Option.some.inj H
     go_wp2
     go_ret
     exact an_ (hs_ n.1)
    have D : (((rd_T80 a b).f0) == o) = false := beq_eq_false_iff_ne.mpr s
    have E : (((rd_T80 a b).f0) != o) = true := bne_iff_ne.mpr s
    have H' := M_ H
    clear H
    go_wp2
    go_roundg k1
    case measure => have := t.1; omega
    case rel => exact ⟨(wrap64 (b + 1)), rs_, H', ⟨by have := t.1; omega⟩, ⟨bq_ c.1⟩, ⟨hs_ n.1⟩⟩
   have v : decide (b < (a.length : Int)) = false := decide_eq_false u
   clear u
   obtain rfl := Option.some.inj H
   obtain ⟨V, W, X, Y, Z, aa⟩ := bc3_ c.1
   go_wp2
   go_ret
   exact an_ (hs_ n.1)
theorem eqA99 (d : Nat) (w : World) (x0 y0 : ByteArray) (x1 y1 : ByteArray) :
  (Op.equalIn (d + 2) 99 (.agg #[.string x0, .string x1]) (.agg #[.string y0, .string y1])).run Tryz.prog w = .ok (x0.toList == y0.toList && (x1.toList == y1.toList)) w := by
 refine eqA_of Tryz.underlying99 (by kernel_rfl) ?_
 refine eqf_cons (by rfl) (by go_simp; rfl) (by go_simp; rfl) (by go_simp) ?_
 exact eqf_last (by rfl) (by go_simp; rfl) (by go_simp; rfl) (by go_simp)
end Go.Proofs.YtanfohlpkppeiaaGreat.Print
end
section
namespace Go.Proofs.YtanfohlpkppeiaaGreat.Print
open Go.RowKit Go.Proofs.YtanfohlpkppeiaaGreatV.PrintWords Go.Proofs.YtanfohlpkppeiaaGreatV.PrintLast Go.Proofs.YtanfohlpkppeiaaGreatV.PrintMore
attribute [local go_sem] max2_int min2_int max_two min_two max_three min_three max_four min_four
set_option linter.unusedVariables false
set_option linter.unusedSimpArgs false

attribute [local go_sem high] eqA99
set_option maxHeartbeats 80000000
set_option maxRecDepth 100000
def spec_SameSet.l0 : Nat → List (S99) → List (S99) → Int → Option (Bool)
 | 0, _, _, _ => none
 | k + 1, b, c, a => if a < (b.length : Int) then (if 0 ≤ a then (if a < (c.length : Int) then (if (!((((rd_T99 b a).f0).toList) == (((rd_T99 c a).f0).toList)) || (!((((rd_T99 b a).f1).toList) == (((rd_T99 c a).f1).toList)))) = true then (some false) else (spec_SameSet.l0 k b c (wrap64 (a + 1)))) else (none)) else (none)) else (some true)
def spec_SameSet.f (k : Nat) (l0 : List (S99)) (a : List (S99)) : Option (Bool) := if (l0.length : Int) = (a.length : Int) then (spec_SameSet.l0 k l0 a 0) else (some false)
theorem spec_SameSet.calls (k : Nat) (M : Option Addr) (N : Nat) (l0 : List (S99)) (O : Option Addr) (P : Nat) (i : List (S99)) (r : Bool) (w : World) (u : Kd.C k99 w M l0.length l0) (v : l0.length ≤ N) (x : Kd.C k99 w O i.length i) (y : i.length ≤ P) (h : spec_SameSet.f k l0 i = some r) :
  Calls Tryz.prog 102 #[.slice M l0.length N, .slice O i.length P] w fun e w' => e = .returned (.bool r) ∧ Drawn0 w w' := by
 have hu99 := Tryz.underlying99
 have z := M_ u
 have S := M_ v
 clear u v
 have A := M_ x
 have T := M_ y
 clear x y
 unfold spec_SameSet.f at h
 have H := h; clear h
 replace H := ie_ H; rcases H with ⟨q, H⟩ | ⟨q, H⟩
 ·
  have B : ((l0.length : Int) == (i.length : Int)) = true := beq_iff_eq.mpr q
  have D : ((l0.length : Int) != (i.length : Int)) = false := bne_eq_false_iff_eq.mpr q
  have E : (l0.length == i.length) = true := by first | simpa using q | (simp at q ⊢; omega)
  clear q
  have H' := M_ H
  clear H
  go_enter Tryz.func102, Tryz.ntmps102
  go_wp2
  repeat (go_quiet (fail); try go_wp2)
  go_loopg [5] k (fun kq U w' => ∃ (a : Int), U = .int .i64 a ∧ Aside0 (spec_SameSet.l0 kq l0 i a = some r) ∧ Aside0 (kq ≤ k) ∧ Drawn0 w w')
  case atStart => exact ⟨(0), rs_, H', ⟨Nat.le_refl _⟩, by repeat (first | exact Drawn0.refl _ | apply Drawn0.step)⟩
  case round =>
   clear H'
   obtain ⟨a, rfl, L, F, ⟨m1, rfl⟩⟩ := hrel
   cases gk with
   | zero => exact absurd L.1 (by simp [spec_SameSet.l0])
   | succ V =>
    have H := L.1
    clear L
    simp only [spec_SameSet.l0] at H
    replace H := ie_ H; rcases H with ⟨G, H⟩ | ⟨G, H⟩
    ·
     have I := decide_eq_true G
     clear G
     replace H := i2_ H; obtain ⟨Q, R, H⟩ := H
     replace H := ie_ H; rcases H with ⟨J, H⟩ | ⟨J, H⟩
     ·
      have K : (!((((rd_T99 l0 a).f0).toList) == (((rd_T99 i a).f0).toList)) || (!((((rd_T99 l0 a).f1).toList) == (((rd_T99 i a).f1).toList)))) = true := J
      clear J
      obtain rfl := Option.some.inj H
      obtain ⟨b, c⟩ : 0 ≤ (a : Int) ∧ a < (l0.length : Int) := pq_
      obtain ⟨s, j, l, m⟩ := at_T99 z.1 a b c
      cases j
      replace b := eq_true b; replace c := eq_true c
      obtain ⟨d, g⟩ : 0 ≤ (a : Int) ∧ a < (i.length : Int) := pq_
      obtain ⟨t, n, o, p⟩ := at_T99 A.1 a d g
      cases n
      replace d := eq_true d; replace g := eq_true g
      go_wp2
      repeat (go_quiet (fail); try go_wp2)
      go_ret
      exact ⟨by first | rfl | (simp; done) | (simp [*]; done), by repeat (first | exact Drawn0.refl _ | apply Drawn0.step)⟩
     have K : (!((((rd_T99 l0 a).f0).toList) == (((rd_T99 i a).f0).toList)) || (!((((rd_T99 l0 a).f1).toList) == (((rd_T99 i a).f1).toList)))) = false := by simpa using J
     clear J
     have H' := M_ H
     clear H
     obtain ⟨b, c⟩ : 0 ≤ (a : Int) ∧ a < (l0.length : Int) := pq_
     obtain ⟨s, j, l, m⟩ := at_T99 z.1 a b c
     cases j
     replace b := eq_true b; replace c := eq_true c
     obtain ⟨d, g⟩ : 0 ≤ (a : Int) ∧ a < (i.length : Int) := pq_
     obtain ⟨t, n, o, p⟩ := at_T99 A.1 a d g
     cases n
     replace d := eq_true d; replace g := eq_true g
     go_wp2
     repeat (go_quiet (fail); try go_wp2)
     go_roundg V
     case measure => have := F.1; omega
     case rel => exact ⟨(wrap64 (a + 1)), rs_, H', ⟨by have := F.1; omega⟩, by repeat (first | exact Drawn0.refl _ | apply Drawn0.step)⟩
    have I : decide (a < (l0.length : Int)) = false := decide_eq_false G
    clear G
    obtain rfl := Option.some.inj H
    go_wp2
    repeat (go_quiet (fail); try go_wp2)
    go_ret
    exact ⟨by first | rfl | (simp; done) | (simp [*]; done), by repeat (first | exact Drawn0.refl _ | apply Drawn0.step)⟩
 have B : ((l0.length : Int) == (i.length : Int)) = false := beq_eq_false_iff_ne.mpr q
 have D : ((l0.length : Int) != (i.length : Int)) = true := bne_iff_ne.mpr q
 have E : (l0.length == i.length) = false := by first | simpa using q | (simp at q ⊢; omega)
 obtain rfl := Option.some.inj H
 go_enter Tryz.func102, Tryz.ntmps102
 go_wp2
 repeat (go_quiet (fail); try go_wp2)
 go_ret
 exact ⟨by first | rfl | (simp; done) | (simp [*]; done), by repeat (first | exact Drawn0.refl _ | apply Drawn0.step)⟩
end Go.Proofs.YtanfohlpkppeiaaGreat.Print
end
section
namespace Go.Proofs.YtanfohlpkppeiaaGreat.Print
open Go.RowKit Go.Proofs.YtanfohlpkppeiaaGreatV.PrintWords Go.Proofs.YtanfohlpkppeiaaGreatV.PrintLast Go.Proofs.YtanfohlpkppeiaaGreatV.PrintMore
attribute [local go_sem] max2_int min2_int max_two min_two max_three min_three max_four min_four
set_option linter.unusedVariables false
set_option linter.unusedSimpArgs false
set_option maxHeartbeats 80000000
set_option maxRecDepth 100000
def spec_InChain.l0 : Nat → List (S99) → Int → Int → List (S29) → Option (Int)
 | 0, _, _, _, _ => none
 | k + 1, e, c, b, a => if c < (a.length : Int) then (if 0 ≤ c then ((spec_SameSet.f k ((rd_T29 a c).f0) e).bind fun d => (if d = true then (some c) else (spec_InChain.l0 k e (wrap64 (c + 1)) b a))) else (none)) else (some (-1))
def spec_InChain.f (k : Nat) (a : Int) (b : List (S29)) (c : List (S99)) : Option (Int) := spec_InChain.l0 k c 0 a b
theorem spec_InChain.calls (k : Nat) (d : Int) (g : Option Addr) (i : Nat) (a : List (S29)) (J : Option Addr) (K : Nat) (s : List (S99)) (r : Int) (w : World) (j : Kd.C k29 w g a.length a) (l : a.length ≤ i) (v : Kd.C k99 w J s.length s) (x : s.length ≤ K) (h : spec_InChain.f k d a s = some r) :
  Calls Tryz.prog 65 #[.agg #[.int .i64 d, .slice g a.length i], .slice J s.length K] w fun e w' => e = .returned (.int .i64 r) ∧ Below w.heap.size w w' := by
 have hu80 := Tryz.underlying80
 have t := M_ j
 have L := M_ l
 clear j l
 have M := M_ v
 have N := M_ x
 clear v x
 have m := M_ (Below.refl w.heap.size w)
 unfold spec_InChain.f at h
 have H := h; clear h
 have H' := M_ H
 clear H
 go_enter Tryz.func65, Tryz.ntmps65
 go_wp2_with (first | ((with_reducible refine gd_ 2 rfl ?_); refine bV_ 2 #[.int .i64 d, .slice g a.length i] 80 ?_; intro u hg w3 c hb; have O := gq_ hg m; replace m := st_ m hb; clear hb hg))
 go_loopg [5] k (fun kq v5 w' => ∃ (b : Int), v5 = .int .i64 b ∧ Aside0 (spec_InChain.l0 kq s b d a = some r) ∧ Aside0 (kq ≤ k) ∧ Aside0 (w'.heap[u]? = some (.cells #[.int .i64 d, (.slice g a.length i)] 80 (0, 0))) ∧ Aside0 (Below w.heap.size w w'))
 case atStart => exact ⟨(0), rs_, H', ⟨Nat.le_refl _⟩, ⟨bq_ c.1⟩, ⟨hs_ m.1⟩⟩
 case round =>
  clear H'
  obtain ⟨b, rfl, P, y, c, m⟩ := hrel
  cases gk with
  | zero => exact absurd P.1 (by simp [spec_InChain.l0])
  | succ V =>
   have H := P.1
   clear P
   simp only [spec_InChain.l0] at H
   replace H := ie_ H; rcases H with ⟨z, H⟩ | ⟨z, H⟩
   ·
    have A := decide_eq_true z
    clear z
    replace H := id_ H; obtain ⟨W, H⟩ := H
    replace H := bi_ H; obtain ⟨B, A6, H⟩ := H
    have AHz_ := M_ H
    clear H
    obtain ⟨X, Y, Z, aa⟩ := bc2_ c.1
    obtain ⟨Q, p, q, D, E, F, G, I, n, o, ba, ca⟩ := au_T29 t.1 m b
    cases D
    go_wp2_with (first | (((with_reducible refine gate_callee (f := 102) rfl ?_); refine gl_ (some 20) Tryz.func102 #[.slice p ((rd_T29 a b).f0).length q, .slice J s.length K] ?_; (with_reducible refine (spec_SameSet.calls V _ _ ((rd_T29 a b).f0) _ _ s B _ ?_ ?_ ?_ ?_ A6.1).mono ?_); exact cp_ ((Kd.C_below o.1 m.1)); exact n.1; exact cp_ ((Kd.C_below M.1 m.1)); exact N.1; rintro e w' ⟨rfl, ⟨nd, rfl⟩⟩; refine ⟨_, rfl, ?_⟩); refine Aside0.out ?_))
    have H := AHz_.1
    clear AHz_
    replace H := ib_ H; rcases H with ⟨rfl, H⟩ | ⟨rfl, H⟩
    ·
     obtain rfl := Option.some.inj H
     refine ⟨?_⟩
     go_wp2
     go_ret
     exact an_ (hs_ m.1)
    have H' := M_ H
    clear H
    refine ⟨?_⟩
    go_wp2
    go_roundg V
    case measure => have := y.1; omega
    case rel => exact ⟨(wrap64 (b + 1)), rs_, H', ⟨by have := y.1; omega⟩, ⟨bq_ c.1⟩, ⟨hs_ m.1⟩⟩
   have A : decide (b < (a.length : Int)) = false := decide_eq_false z
   clear z
   obtain rfl := Option.some.inj H
   obtain ⟨R, S, T, U⟩ := bc2_ c.1
   go_wp2
   go_ret
   exact an_ (hs_ m.1)
def spec_Touch.f (e : List (S99)) (a : Int) (b : Int) (f : ByteArray) (g : List (S99)) (c : Int) (d : Int) (h : ByteArray) : Option (Bool) := if a ≤ d then (some (decide (c ≤ b))) else (some false)
theorem spec_Touch.calls (j : Option Addr) (k : Nat) (a : List (S99)) (g : Int) (l : Int) (m : ByteArray) (n : Option Addr) (o : Nat) (b : List (S99)) (p : Int) (i : Int) (q : ByteArray) (r : Bool) (w : World) (s : Kd.C k99 w j a.length a) (t : a.length ≤ k) (u : Kd.C k99 w n b.length b) (v : b.length ≤ o) (h : spec_Touch.f a g l m b p i q = some r) :
  Calls Tryz.prog 119 #[.agg #[.slice j a.length k, .int .i64 g, .int .i64 l, .string m], .agg #[.slice n b.length o, .int .i64 p, .int .i64 i, .string q]] w fun e w' => e = .returned (.bool r) ∧ Below w.heap.size w w' := by
 have hu29 := Tryz.underlying29
 have D := M_ s
 have E := M_ t
 clear s t
 have F := M_ u
 have G := M_ v
 clear u v
 have x := M_ (Below.refl w.heap.size w)
 unfold spec_Touch.f at h
 have H := h; clear h
 have AHz_ := M_ H
 clear H
 go_enter Tryz.func119, Tryz.ntmps119
 go_wp2_with (first | ((with_reducible refine gd_ 2 rfl ?_); refine bV_ 2 #[.slice j a.length k, .int .i64 g, .int .i64 l, .string m] 29 ?_; intro I hg w4 c hb; have J := gq_ hg x; replace x := st_ x hb; clear hb hg) | (((with_reducible refine gd_ 3 rfl ?_); refine bV_ 3 #[.slice n b.length o, .int .i64 p, .int .i64 i, .string q] 29 ?_; intro K hg w5 y hb; have L := gq_ hg x; replace x := st_ x hb; obtain ⟨d, z, c⟩ := nb_ c hg hb; clear hb hg; have M := n2_ d; obtain ⟨N, O, P, Q, R, S, T, U⟩ := bc4_ c.1; obtain ⟨V, W, X, Y, Z, aa, ba, ca⟩ := bc4_ y.1); refine Aside0.out ?_))
 have H := AHz_.1
 clear AHz_
 replace H := ie_ H; rcases H with ⟨A, H⟩ | ⟨A, H⟩
 ·
  have B := decide_eq_true A
  clear A
  obtain rfl := Option.some.inj H
  refine ⟨?_⟩
  go_wp2
  go_ret
  exact an_ (hs_ x.1)
 have B : decide (g ≤ i) = false := decide_eq_false A
 clear A
 obtain rfl := Option.some.inj H
 refine ⟨?_⟩
 go_wp2
 go_ret
 exact an_ (hs_ x.1)
def spec_Least.f (a : Int) (b : Int) : Option (Int) := if b < a then (some b) else (some a)
theorem spec_Least.calls (c : Int) (d : Int) (r : Int) (w : World) (h : spec_Least.f c d = some r) :
  Calls Tryz.prog 120 #[.int .i64 c, .int .i64 d] w fun e w' => e = .returned (.int .i64 r) ∧ Drawn0 w w' := by
 unfold spec_Least.f at h
 have H := h; clear h
 replace H := ie_ H; rcases H with ⟨a, H⟩ | ⟨a, H⟩
 ·
  have b := decide_eq_true a
  clear a
  obtain rfl := Option.some.inj H
  go_enter Tryz.func120, Tryz.ntmps120
  go_wp2
  go_ret
  exact ⟨by first | rfl | (simp; done) | (simp [*]; done), by repeat (first | exact Drawn0.refl _ | apply Drawn0.step)⟩
 have b : decide (d < c) = false := decide_eq_false a
 clear a
 obtain rfl := Option.some.inj H
 go_enter Tryz.func120, Tryz.ntmps120
 go_wp2
 go_ret
 exact ⟨by first | rfl | (simp; done) | (simp [*]; done), by repeat (first | exact Drawn0.refl _ | apply Drawn0.step)⟩
def spec_Merge.f (h : List (S99)) (c : Int) (i : Int) (j : ByteArray) (d : List (S99)) (b : Int) (e : Int) (g : ByteArray) : Option ((List (S99)) × Int × Int × ByteArray) := (spec_l4Copy.f d b e g).bind fun a => ((spec_Touch.f h c i j d b e g).bind fun k => (if k = true then ((spec_Least.f c b).bind fun l => (some (a.1, l, a.2.2.1, a.2.2.2))) else (some (a.1, a.2.1, a.2.2.1, a.2.2.2))))
theorem spec_Merge.calls (v : Option Addr) (x : Nat) (k : List (S99)) (l : Int) (q : Int) (r : ByteArray) (t : Option Addr) (u : Nat) (i : List (S99)) (j : Int) (m : Int) (n : ByteArray) (r1 : List (S99)) (r2 : Int) (r3 : Int) (r4 : ByteArray) (w : World) (P : Kd.C k99 w v k.length k) (Q : k.length ≤ x) (S : Kd.C k99 w t i.length i) (T : i.length ≤ u) (h : spec_Merge.f k l q r i j m n = some (r1, r2, r3, r4)) :
  Calls Tryz.prog 100 #[.agg #[.slice v k.length x, .int .i64 l, .int .i64 q, .string r], .agg #[.slice t i.length u, .int .i64 j, .int .i64 m, .string n]] w fun e w' => ∃ v0_ : Value, e = .returned (.agg #[v0_, .int .i64 r2, .int .i64 r3, .string r4]) ∧ Kd.R k99 99 w' w.heap.size (fun _ => True) v0_ r1 ∧ Below w.heap.size w w' := by
 have hu29 := Tryz.underlying29
 have U := M_ P
 have V := M_ Q
 clear P Q
 have G := M_ S
 have I := M_ T
 clear S T
 have o := M_ (Below.refl w.heap.size w)
 unfold spec_Merge.f at h
 have H := h; clear h
 replace H := bi_ H; obtain ⟨⟨s, F, y, z⟩, A3, H⟩ := H; (try dsimp only at H)
 replace H := bi_ H; obtain ⟨Zb, A4, H⟩ := H
 have AHz_ := M_ H
 clear H
 go_enter Tryz.func100, Tryz.ntmps100
 go_wp2_with (first | ((with_reducible refine gd_ 2 rfl ?_); refine bV_ 2 #[.slice v k.length x, .int .i64 l, .int .i64 q, .string r] 29 ?_; intro Y hg w7 a hb; have ia := gq_ hg o; replace o := st_ o hb; clear hb hg) | ((with_reducible refine gd_ 3 rfl ?_); refine bV_ 3 #[.slice t i.length u, .int .i64 j, .int .i64 m, .string n] 29 ?_; intro Z hg w8 c hb; have ja := gq_ hg o; replace o := st_ o hb; obtain ⟨aa, J, a⟩ := nb_ a hg hb; clear hb hg) | ((with_reducible refine gd_ 4 rfl ?_); refine bV_ 4 #[.slice none 0 0, .int .i64 0, .int .i64 0, .string (⟨#[]⟩ : ByteArray)] 29 ?_; intro D hg w9 b hb; have ka := gq_ hg o; replace o := st_ o hb; obtain ⟨K, ba, a⟩ := nb_ a hg hb; obtain ⟨L, ca, c⟩ := nb_ c hg hb; clear hb hg; have la := n2_ J; have ma := n2_ L; obtain ⟨na, oa, pa, qa, ra, sa, ta, ua⟩ := bc4_ c.1) | ((with_reducible refine gate_callee (f := 63) rfl ?_); refine gl_ (some 7) Tryz.func63 #[.agg #[.slice t i.length u, .int .i64 j, .int .i64 m, .string n]] ?_; (with_reducible refine (spec_l4Copy.calls _ _ i j m n s F y z _ ?_ ?_ A3.1).mono ?_); exact cp_ ((Kd.C_below G.1 o.1)); exact I.1; rintro e dc ⟨bc, rfl, ga, hb⟩; refine ⟨_, rfl, ?_⟩; have g := rw_ ga o; obtain ⟨a, c, b, o⟩ := u4_ hb a c b o; (try clear hb ga)) | (((with_reducible refine gd_ 5 rfl ?_); refine bV_ 5 #[.slice none 0 0, .int .i64 0, .int .i64 0, .string (⟨#[]⟩ : ByteArray)] 29 ?_; intro W hg ec d hb; replace g := rb_ g hb; have va := gq_ hg o; replace o := st_ o hb; obtain ⟨da, M, a⟩ := nb_ a hg hb; obtain ⟨ea, N, c⟩ := nb_ c hg hb; obtain ⟨fa, O, b⟩ := nb_ b hg hb; clear hb hg; obtain ⟨A, B, ha⟩ := Kd.R_slice g.1; subst ha; have wa := n2_ M; have xa := n2_ N; have ya := n2_ O; obtain ⟨za, Aa, Ba, Ca, Da, Ea, Fa, Ga⟩ := bc4_ d.1; have Ha := n2_ K; obtain ⟨Ia, Ja, Ka, La, Ma, Na, Oa, Pa⟩ := bc4_ a.1; obtain ⟨Qa, Ra, Sa, Ta, Ua, Va, Wa, Xa⟩ := bc4_ c.1); refine Aside0.out ?_))
 have H := AHz_.1
 clear AHz_
 replace H := ib_ H; rcases H with ⟨rfl, H⟩ | ⟨rfl, H⟩
 ·
  replace H := bi_ H; obtain ⟨X, A6, H⟩ := H
  simp only [Option.some.injEq, Prod.mk.injEq] at H
  obtain ⟨rfl, rfl, rfl, rfl⟩ := H
  refine ⟨?_⟩
  go_wp2_with (first | ((with_reducible refine gate_callee (f := 119) rfl ?_); refine gl_ (some 10) Tryz.func119 #[.agg #[.slice v k.length x, .int .i64 l, .int .i64 q, .string r], .agg #[.slice t i.length u, .int .i64 j, .int .i64 m, .string n]] ?_; (with_reducible refine (spec_Touch.calls _ _ k l q r _ _ i j m n true _ ?_ ?_ ?_ ?_ A4.1).mono ?_); exact Kd.C_below U.1 (hs_ o.1); exact V.1; exact Kd.C_below G.1 (hs_ o.1); exact I.1; rintro e E ⟨rfl, hb⟩; refine ⟨_, rfl, ?_⟩; replace g := M_ (Kd.R_below (ry_ g.1 d.1) hb); obtain ⟨a, c, b⟩ := u3_ hb a c b; replace d := by_ d #[.slice A s.length B, .int .i64 F, .int .i64 y, .string z] hb; replace o := st_ o hb; (try clear hb); obtain ⟨Ya, Za, ab, bb, cb, db, eb, fb⟩ := bc4_ a.1; obtain ⟨gb, ib, jb, kb, lb, mb, nb, ob⟩ := bc4_ c.1) | ((with_reducible refine gate_callee (f := 120) rfl ?_); refine gl_ (some 15) Tryz.func120 #[.int .i64 l, .int .i64 j] ?_; (with_reducible refine (spec_Least.calls l j X _ A6.1).mono ?_); rintro e w' ⟨rfl, ⟨nd, rfl⟩⟩; refine ⟨_, rfl, ?_⟩; (try (rw [drewN_self E]; generalize hq_ : World.drewN E _ = E; replace g : Aside0 (Kd.R k99 99 E w.heap.size (fun _ => True) (.slice A s.length B) s) := ⟨by rw [← hq_]; exact (rp_ g.1)⟩; replace a : Aside0 (E.heap[Y]? = some (.cells #[.slice v k.length x, .int .i64 l, .int .i64 q, .string r] 29 (0, 0))) := ⟨by rw [← hq_]; exact (pb_ a.1)⟩; replace c : Aside0 (E.heap[Z]? = some (.cells #[.slice t i.length u, .int .i64 j, .int .i64 m, .string n] 29 (0, 0))) := ⟨by rw [← hq_]; exact (pb_ c.1)⟩; replace b : Aside0 (E.heap[D]? = some (.cells #[.slice none 0 0, .int .i64 0, .int .i64 0, .string (⟨#[]⟩ : ByteArray)] 29 (0, 0))) := ⟨by rw [← hq_]; exact (pb_ b.1)⟩; replace d : Aside0 (E.heap[W]? = some (.cells #[.slice A s.length B, .int .i64 F, .int .i64 y, .string z] 29 (0, 0))) := ⟨by rw [← hq_]; exact (pb_ d.1)⟩; replace o : Aside0 (Below w.heap.size w E) := ⟨by rw [← hq_]; exact (hs_ o.1)⟩; clear hq_)); obtain ⟨pb, qb, rb, sb, tb, ub, vb, wb⟩ := bc4_ d.1; obtain ⟨xb, yb, zb, Ab, Bb, Cb, Db, Eb⟩ := bc4_ b.1))
  refine bodyPost_ret (results_cell_row rfl _ _ D 29 #[.slice A s.length B, .int .i64 X, .int .i64 y, .string z] (0, 0) _ rfl (bp_ b.1) Tryz.underlying29 rfl (by kernel_rfl)) rfl ?_
  exact ⟨_, rr_, Kd.R_mono (rf_ D (Kd.R_far (p := ⟨W, 1, none⟩) (Kd.R_types (Kd.R_types g.1 d.1 (by decide)) b.1 (by decide)) (fun _ hk => hk.1.2) (.int .i64 X)) (fun _ hk => hk.2)) (fun _ hk => trivial), hs_ o.1⟩
 simp only [Option.some.injEq, Prod.mk.injEq] at H
 obtain ⟨rfl, rfl, rfl, rfl⟩ := H
 refine ⟨?_⟩
 go_wp2_with (first | ((with_reducible refine gate_callee (f := 119) rfl ?_); refine gl_ (some 10) Tryz.func119 #[.agg #[.slice v k.length x, .int .i64 l, .int .i64 q, .string r], .agg #[.slice t i.length u, .int .i64 j, .int .i64 m, .string n]] ?_; (with_reducible refine (spec_Touch.calls _ _ k l q r _ _ i j m n false _ ?_ ?_ ?_ ?_ A4.1).mono ?_); exact Kd.C_below U.1 (hs_ o.1); exact V.1; exact Kd.C_below G.1 (hs_ o.1); exact I.1; rintro e gc ⟨rfl, hb⟩; refine ⟨_, rfl, ?_⟩; replace g := M_ (Kd.R_below (ry_ g.1 d.1) hb); obtain ⟨a, c, b⟩ := u3_ hb a c b; replace d := by_ d #[.slice A s.length B, .int .i64 F, .int .i64 y, .string z] hb; replace o := st_ o hb; (try clear hb); obtain ⟨Fb, Gb, Hb, Ib, Jb, Kb, Lb, Mb⟩ := bc4_ d.1; obtain ⟨Nb, Ob, Pb, Qb, Rb, Sb, Tb, Ub⟩ := bc4_ b.1))
 refine bodyPost_ret (results_cell_row rfl _ _ D 29 #[.slice A s.length B, .int .i64 F, .int .i64 y, .string z] (0, 0) _ rfl (bp_ b.1) Tryz.underlying29 rfl (by kernel_rfl)) rfl ?_
 exact ⟨_, rr_, Kd.R_mono (ry_ g.1 b.1) (fun _ hk => trivial), hs_ o.1⟩
def spec_PutChain.f (k : Nat) (h : Int) (c : List (S29)) (g : List (S99)) (i : Int) (j : Int) (l : ByteArray) : Option (Int × (List (S29)) × Bool) := (spec_l6Copy.f k h c).bind fun b => ((spec_InChain.f k h c g).bind fun a => (if a < 0 then ((spec_l4Copy.f g i j l).bind fun d => (if b.2.length < 2513169434916 then (some (b.1, (b.2 ++ [(⟨d.1, d.2.1, d.2.2.1, d.2.2.2⟩ : S29)]), true)) else (none))) else (if 0 ≤ a then (if a < (c.length : Int) then ((spec_Merge.f ((rd_T29 c a).f0) ((rd_T29 c a).f1) ((rd_T29 c a).f2) ((rd_T29 c a).f3) g i j l).bind fun e => (if a < (b.2.length : Int) then (some (b.1, (b.2.set (a : Int).toNat (⟨e.1, e.2.1, e.2.2.1, e.2.2.2⟩ : S29)), false)) else (none))) else (none)) else (none))))
def spec_PutChain.T7 : Bool × List (List Nat × List Nat) := (true, [([], []), ([0], [0]), ([], []), ([1, 2], [1, 2]), ([3], [3]), ([], []), ([4, 5], [4, 5]), ([], []), ([7, 6, 6, 0, 1, 2, 3, 4, 5, 6, 7], [6, 7])])
def spec_PutChain.B7 : List Nat := [0, 1, 0, 7, 15, 0, 63, 0, 255]
theorem spec_PutChain.tab7 : rtab .any (opsOf Tryz.f62 7) = spec_PutChain.T7 := by kernel_rfl
theorem spec_PutChain.bits7 : waitsOk spec_PutChain.T7.2 spec_PutChain.B7 = true := by kernel_rfl
theorem spec_PutChain.calls (k : Nat) (Z : Int) (Ca : Option Addr) (ja : Nat) (r : List (S29)) (aa : Option Addr) (ba : Nat) (N : List (S99)) (W : Int) (X : Int) (Y : ByteArray) (r1 : Int) (r2 : List (S29)) (r3 : Bool) (w : World) (ib : Kd.C k29 w Ca r.length r) (jb : r.length ≤ ja) (kb : Kd.C k99 w aa N.length N) (lb : N.length ≤ ba) (h : spec_PutChain.f k Z r N W X Y = some (r1, r2, r3)) :
  Calls Tryz.prog 62 #[.agg #[.int .i64 Z, .slice Ca r.length ja], .agg #[.slice aa N.length ba, .int .i64 W, .int .i64 X, .string Y]] w fun e w' => ∃ v1_ : Value, e = .returned (.tuple #[.agg #[.int .i64 r1, v1_], .bool r3]) ∧ Kd.S k29 29 w' w.heap.size (fun _ => True) v1_ r2 ∧ Below w.heap.size w w' := by
 have hu80 := Tryz.underlying80
 have hu29 := Tryz.underlying29
 have Pa := M_ ib
 have Wa := M_ jb
 clear ib jb
 have Da := M_ kb
 have Ea := M_ lb
 clear kb lb
 have B := M_ (Below.refl w.heap.size w)
 unfold spec_PutChain.f at h
 have H := h; clear h
 replace H := bi_ H; obtain ⟨⟨ra, E⟩, A3, H⟩ := H; (try dsimp only at H)
 replace H := bi_ H; obtain ⟨l, A4, H⟩ := H
 have AHz_ := M_ H
 clear H
 go_enter Tryz.func62, Tryz.ntmps62
 go_wp2_with (first | ((with_reducible refine gd_ 2 rfl ?_); refine bV_ 2 #[.int .i64 Z, .slice Ca r.length ja] 80 ?_; intro ca hg w8 c hb; have md := gq_ hg B; replace B := st_ B hb; clear hb hg) | ((with_reducible refine gd_ 3 rfl ?_); refine bV_ 3 #[.slice aa N.length ba, .int .i64 W, .int .i64 X, .string Y] 29 ?_; intro s hg w9 a hb; have nd := gq_ hg B; replace B := st_ B hb; obtain ⟨Xa, Lb, c⟩ := nb_ c hg hb; clear hb hg) | ((with_reducible refine gd_ 4 rfl ?_); refine bV_ 4 #[.int .i64 0, .slice none 0 0] 80 ?_; intro la hg Ef m hb; have od := gq_ hg B; replace B := st_ B hb; obtain ⟨Ya, Mb, c⟩ := nb_ c hg hb; obtain ⟨Za, Nb, a⟩ := nb_ a hg hb; clear hb hg; have pd := n2_ Xa; have qd := n2_ Ya; obtain ⟨rd, sd, td, ud⟩ := bc2_ c.1) | ((with_reducible refine gate_callee (f := 92) rfl ?_); refine gl_ (some 11) Tryz.func92 #[.agg #[.int .i64 Z, .slice Ca r.length ja]] ?_; (with_reducible refine (spec_l6Copy.calls k Z _ _ r ra E _ ?_ ?_ A3.1).mono ?_); exact cp_ ((Kd.C_below Pa.1 B.1)); exact Wa.1; rintro e Ff ⟨tf, rfl, va, hb⟩; refine ⟨_, rfl, ?_⟩; have d := M_ (Kd.S_lower (Kd.S_newB va (pb_ a.1)) (below_size (hs_ B.1))); obtain ⟨c, a, m, B⟩ := u4_ hb c a m B; (try clear hb va)) | (((with_reducible refine gd_ 6 rfl ?_); refine bV_ 6 #[.int .i64 0, .slice none 0 0] 80 ?_; intro ya hg Gf q hb; replace d := sb_ d hb; have vd := gq_ hg B; replace B := st_ B hb; obtain ⟨Ob, ab, c⟩ := nb_ c hg hb; obtain ⟨Pb, bb, a⟩ := nb_ a hg hb; obtain ⟨Qb, cb, m⟩ := nb_ m hg hb; clear hb hg; have wd := n2_ ab; have xd := n2_ bb; have yd := n2_ cb; obtain ⟨zd, Ad, Bd, Cd⟩ := bc2_ q.1; obtain ⟨ma, fa, ac⟩ := Kd.S_slice d.1; subst ac; obtain ⟨Dd, Ed, Fd, Gd⟩ := bc2_ c.1; have Hd := n2_ Za; obtain ⟨Id, Jd, Ld, Md, Nd, Od, Pd, Qd⟩ := bc4_ a.1); refine Aside0.out ?_))
 have H := AHz_.1
 clear AHz_
 replace H := ie_ H; rcases H with ⟨c5, H⟩ | ⟨c5, H⟩
 ·
  have cc := decide_eq_true c5
  clear c5
  replace H := bi_ H; obtain ⟨⟨ka, za, Aa, Ba⟩, A6, H⟩ := H; (try dsimp only at H)
  replace H := im_ H; obtain ⟨dc, H⟩ := H
  obtain ⟨mb, hy_⟩ : ∃ y_ : List (S29), y_ = (E ++ [(⟨ka, za, Aa, Ba⟩ : S29)]) := ⟨_, rfl⟩
  replace H : (some (ra, mb, true)) = some (r1, r2, r3) := hm_
  have Rb := M_ hy_; clear hy_
  simp only [Option.some.injEq, Prod.mk.injEq] at H
  obtain ⟨rfl, rfl, rfl⟩ := H
  refine ⟨?_⟩
  go_wp2_with (first | ((with_reducible refine gate_callee (f := 65) rfl ?_); refine gl_ (some 15) Tryz.func65 #[.agg #[.int .i64 Z, .slice Ca r.length ja], .slice aa N.length ba] ?_; (with_reducible refine (spec_InChain.calls k Z _ _ r _ _ N l _ ?_ ?_ ?_ ?_ A4.1).mono ?_); exact Kd.C_below Pa.1 (hs_ B.1); exact Wa.1; exact Kd.C_below Da.1 (hs_ B.1); exact Ea.1; rintro e If ⟨rfl, hb⟩; refine ⟨_, rfl, ?_⟩; replace d := M_ (Kd.S_below (sy_ d.1 q.1) hb); obtain ⟨c, a, m⟩ := u3_ hb c a m; replace q := by_ q #[.int .i64 ra, .slice ma E.length fa] hb; replace B := st_ B hb; (try clear hb); obtain ⟨Rd, Sd, Td, Ud, Vd, Wd, Xd, Yd⟩ := bc4_ a.1) | ((with_reducible refine gate_callee (f := 63) rfl ?_); refine gl_ (some 19) Tryz.func63 #[.agg #[.slice aa N.length ba, .int .i64 W, .int .i64 X, .string Y]] ?_; (with_reducible refine (spec_l4Copy.calls _ _ N W X Y ka za Aa Ba _ ?_ ?_ A6.1).mono ?_); exact cp_ ((Kd.C_below Da.1 B.1)); exact Ea.1; rintro e Jf ⟨uf, rfl, va, hb⟩; refine ⟨_, rfl, ?_⟩; replace d := M_ (Kd.S_elder' (sp_ d.1) (Kd.R_base va) hb); have na := rw_ va B; obtain ⟨c, a, m, q, B⟩ := u5_ hb c a m q B; (try clear hb va)) | ((with_reducible refine gd_ 8 rfl ?_); refine bV_ 8 #[.slice none 0 0, .int .i64 0, .int .i64 0, .string (⟨#[]⟩ : ByteArray)] 29 ?_; intro da hg Zd ga hb; replace d := se_ d hg hb; replace na := rb_ na hb; have ae := gq_ hg B; replace B := st_ B hb; obtain ⟨Sb, db, c⟩ := nb_ c hg hb; obtain ⟨Tb, eb, a⟩ := nb_ a hg hb; obtain ⟨Ub, fb, m⟩ := nb_ m hg hb; obtain ⟨Vb, gb, q⟩ := nb_ q hg hb; clear hb hg; obtain ⟨Fa, Ga, ec⟩ := Kd.R_slice na.1; subst ec; have be := n2_ db; have ce := n2_ eb; have de := n2_ fb; have ee := n2_ gb; obtain ⟨fe, ge, he, ie, je, ke, le, me⟩ := bc4_ ga.1) | ((with_reducible refine gate_store (t := 29) (p := 8) rfl ?_); refine store_event (t := 29) (p := 8) (v := ?vo_w34) (w1 := ((((Zd.setCell ⟨da, 0, none⟩ (.slice Fa ka.length Ga)).setCell ⟨da, 1, none⟩ (.int .i64 za)).setCell ⟨da, 2, none⟩ (.int .i64 Aa)).setCell ⟨da, 3, none⟩ (.string Ba))) ?hg ?ho ?hn ?hr ?_; (case ho => rfl); (case hg => rfl); (case hn => rfl); (case hr => first | (go_simp; done) | (go_simp; rfl)); intro Ra hw; replace d : Aside0 (Kd.S k29 29 Ra w.heap.size (fun k_ => some k_ ≠ (.slice Fa ka.length Ga : Value).ownBlock ∧ k_ ≠ s ∧ k_ ≠ da) (.slice ma E.length fa) E) := ⟨(by rw [hw]; exact (Kd.S_mono (sf_ da d.1 (fun _ hk => hk.2)) (fun _ hk => ⟨hk.1.2, ⟨hk.1.1.2, hk.2⟩⟩)))⟩; replace na : Aside0 (Kd.R k99 99 Ra w.heap.size (fun _ => True) (.slice Fa ka.length Ga) ka) := ⟨(by rw [hw]; exact (Kd.R_mono (ry_ na.1 ga.1) (fun _ hk => trivial)))⟩; replace c : Aside0 (Ra.heap[ca]? = some (.cells #[.int .i64 Z, .slice Ca r.length ja] 80 (0, 0))) := ⟨(by rw [hw]; exact (bq_ c.1))⟩; replace a : Aside0 (Ra.heap[s]? = some (.cells #[.slice aa N.length ba, .int .i64 W, .int .i64 X, .string Y] 29 (0, 0))) := ⟨(by rw [hw]; exact (bq_ a.1))⟩; replace m : Aside0 (Ra.heap[la]? = some (.cells #[.int .i64 0, .slice none 0 0] 80 (0, 0))) := ⟨(by rw [hw]; exact (bq_ m.1))⟩; replace q : Aside0 (Ra.heap[ya]? = some (.cells #[.int .i64 ra, .slice ma E.length fa] 80 (0, 0))) := ⟨(by rw [hw]; exact (bq_ q.1))⟩; replace ga : Aside0 (Ra.heap[da]? = some (.cells #[.slice Fa ka.length Ga, .int .i64 za, .int .i64 Aa, .string Ba] 29 (0, 0))) := ⟨(by rw [hw]; exact (bp_ ga.1))⟩; replace B : Aside0 (Below w.heap.size w Ra) := ⟨(by rw [hw]; exact (hs_ B.1))⟩; clear hw; obtain ⟨ne, oe, pe, qe⟩ := bc2_ q.1; obtain ⟨re, se, te, ue, ve, we, xe, ye⟩ := bc4_ ga.1) | ((with_reducible refine gate_builtin (b := .append) (xs := #[.tmp 21, .tmp 23]) rfl ?_); at_builtin; refine Kd.S_append k29 (w0 := w) w.heap.size rfl (.tmp 21) (.tmp 23) 40 29 (.agg #[(.slice none 0 0), (.int .i64 0), (.int .i64 0), (.string ⟨#[]⟩)]) 56 rfl Tryz.underlying40 info29 rfl (by decide) (by omega) (.slice ma E.length fa) E (⟨ka, za, Aa, Ba⟩ : S29) [.slice Fa ka.length Ga, .int .i64 za, .int .i64 Aa, .string Ba] (fun k_ => k_ ≠ s ∧ k_ ≠ da) (fun k_ => some k_ = (.slice Fa ka.length Ga : Value).ownBlock) rfl rfl ?aP (fun k_ hk_ => ((Kd.R_mono (ok' := fun k_ => ((fun k_ => k_ ≠ s ∧ k_ ≠ da)) k_ ∧ some k_ ≠ (.slice ma E.length fa : Value).ownBlock) (Kd.R_types (Kd.R_types (Kd.R_apart' (na.1) (Kd.S_typed d.1) (by decide)) a.1 (by decide)) ga.1 (by decide)) (fun k_ hk => ⟨⟨hk.1.2, hk.2⟩, hk.1.1.2⟩))).1 k_ hk_.symm) ?aF ?aO ?aB ?aS ?aL ?_; (case aP => exact k29_mkM _ _ _ (⟨ka, za, Aa, Ba⟩ : S29) (Kd.R_mono (Kd.R_tight rfl (Kd.R_mono (ok' := fun k_ => ((fun k_ => k_ ≠ s ∧ k_ ≠ da)) k_ ∧ some k_ ≠ (.slice ma E.length fa : Value).ownBlock) (Kd.R_types (Kd.R_types (Kd.R_apart' (na.1) (Kd.S_typed d.1) (by decide)) a.1 (by decide)) ga.1 (by decide)) (fun k_ hk => ⟨⟨hk.1.2, hk.2⟩, hk.1.1.2⟩))) (fun _ h_ => h_))); (case aB => exact (hs_ B.1)); (case aF => exact (fun k_ hk => ⟨Kd.freshB (g := s) (o := .cells #[.slice aa N.length ba, .int .i64 W, .int .i64 X, .string Y] 29 (0, 0)) (pb_ a.1) k_ hk, Kd.freshB (g := da) (o := .cells #[.slice Fa ka.length Ga, .int .i64 za, .int .i64 Aa, .string Ba] 29 (0, 0)) (pb_ ga.1) k_ hk⟩)); (case aO => exact (Kd.S_mono (sp_ d.1) (fun k_ hk => ⟨⟨hk.2.1, hk.2.2⟩, fun e_ => hk.1 e_⟩))); (case aS => exact (below_size (hs_ B.1))); (case aL => have := dc.1; omega); intro vf Kf ho hb hg hat; rw [← Rb.1] at ho; replace c := bg_ c hg d; replace a := M_ (blk_grown (bq_ a.1) hg (Kd.S_away d.1 (fun _ hk => hk.2.1))); replace m := bg_ m hg d; replace q := bg_ q hg d; replace ga := M_ (blk_grown (bq_ ga.1) hg (Kd.S_away d.1 (fun _ hk => hk.2.2))); replace B := M_ (hb); have nb := M_ (ho); clear d na; clear ho hb hg hat; obtain ⟨xb, yb, fc⟩ := Kd.S_slice nb.1; subst fc; obtain ⟨ze, Ae, Be, Ce⟩ := bc2_ q.1; obtain ⟨De, Ee, Fe, Ge⟩ := bc2_ m.1))
  refine bodyPost_ret (results_ct rfl _ _ la 80 #[.int .i64 ra, .slice xb mb.length yb] (0, 0) _ rfl (bp_ m.1) Tryz.underlying80 rfl (by kernel_rfl)) rfl ?_
  exact ⟨_, rr_, Kd.S_mono (sf_ la (Kd.S_far (p := ⟨ya, 1, none⟩) (Kd.S_types (Kd.S_types nb.1 q.1 (by decide)) m.1 (by decide)) (fun _ hk => hk.1.2) (.slice xb mb.length yb)) (fun _ hk => hk.2)) (fun _ hk => trivial), hs_ B.1⟩
 have cc : decide (l < 0) = false := decide_eq_false c5
 clear c5
 replace H := i2_ H; obtain ⟨He, Ie, H⟩ := H
 replace H := bi_ H; obtain ⟨⟨ha, sa, ta, ua⟩, gc, H⟩ := H; (try dsimp only at H)
 replace H := id_ H; obtain ⟨Je, H⟩ := H
 obtain ⟨zb, hy_⟩ : ∃ y_ : List (S29), y_ = (E.set (l : Int).toNat (⟨ha, sa, ta, ua⟩ : S29)) := ⟨_, rfl⟩
 replace H : (some (ra, zb, false)) = some (r1, r2, r3) := hm_
 have Wb := M_ hy_; clear hy_
 simp only [Option.some.injEq, Prod.mk.injEq] at H
 obtain ⟨rfl, rfl, rfl⟩ := H
 refine ⟨?_⟩
 try go_wp2_with (first | ((with_reducible refine gate_callee (f := 65) rfl ?_); refine gl_ (some 15) Tryz.func65 #[.agg #[.int .i64 Z, .slice Ca r.length ja], .slice aa N.length ba] ?_; (with_reducible refine (spec_InChain.calls k Z _ _ r _ _ N l _ ?_ ?_ ?_ ?_ A4.1).mono ?_); exact Kd.C_below Pa.1 (hs_ B.1); exact Wa.1; exact Kd.C_below Da.1 (hs_ B.1); exact Ea.1; rintro e Ke ⟨rfl, hb⟩; refine ⟨_, rfl, ?_⟩; replace d := M_ (Kd.S_below (sy_ d.1 q.1) hb); obtain ⟨c, a, m⟩ := u3_ hb c a m; replace q := by_ q #[.int .i64 ra, .slice ma E.length fa] hb; replace B := st_ B hb; (try clear hb)))
 obtain ⟨d, c, a, m, q, B⟩ := y6_ d c a m q B
 obtain ⟨ob, pb⟩ : 0 ≤ (l : Int) ∧ l < (r.length : Int) := pq_
 obtain ⟨O, wa, xa, hc, ia, oa, pa, qa, Sa, Ta⟩ := at_T29 Pa.1 l ob pb
 have x := qa
 have y := pa
 have z := oa
 have A := ia
 cases hc
 replace ia := c4_ B ia oa pa qa; clear oa pa qa; obtain ⟨ia, oa, pa, qa⟩ := ia
 have Ha := M_ Ta
 have Ua := M_ Sa
 clear Ta Sa
 replace ob := eq_true ob; replace pb := eq_true pb
 refine start_ (n := 9) (S := fun w' => c_ w' ca 0 (.int .i64 Z) ∧ c_ w' ca 1 (.slice (some O) r.length ja) ∧ c_ w' s 0 (.slice aa N.length ba) ∧ c_ w' s 1 (.int .i64 W) ∧ c_ w' s 2 (.int .i64 X) ∧ c_ w' s 3 (.string Y) ∧ w'.cell? (O.add ((l).toNat * 4)) = some (.slice wa ((rd_T29 r l).f0).length xa) ∧ d_ w' (O.add ((l).toNat * 4)) 1 (.int .i64 ((rd_T29 r l).f1)) ∧ d_ w' (O.add ((l).toNat * 4)) 2 (.int .i64 ((rd_T29 r l).f2)) ∧ d_ w' (O.add ((l).toNat * 4)) 3 (.string ((rd_T29 r l).f3))) (ds := []) (b_ 0 9) (by kernel_rfl) rfl rfl ⟨bx_ c.1 0, bx_ c.1 1, bx_ a.1 0, bx_ a.1 1, bx_ a.1 2, bx_ a.1 3, ((B.1.cell (World.block_lt_of_cell? w _ A)).trans A), ((B.1.cell (World.block_lt_of_cell? w _ z)).trans z), ((B.1.cell (World.block_lt_of_cell? w _ y)).trans y), ((B.1.cell (World.block_lt_of_cell? w _ x)).trans x)⟩ (fun D => ?_); refine with_tabW spec_PutChain.tab7 spec_PutChain.bits7 (fun La ic => ?_)
 generalize Ke.drew = Lf at d c a m q B Ha ia oa pa qa D ⊢
 refine p_ La ?_
 refine qw_ 2 (m_ 9 5) La ?_
 refine qt_ 1 (b_ 3 6) La ic D ?_
 refine p_ La ?_
 iterate 2 refine t0_ La ic D ?_
 refine join_ (σ := Value × Nat) 1 (b_ 8 1) (fun s_ => [(33, .agg #[s_.1, .int .i64 sa, .int .i64 ta, .string ua]), (9, .pointer (some ⟨s_.2, 0, none⟩))]) (fun s_ w' => (c_ w' ca 0 (.int .i64 Z) ∧ c_ w' ca 1 (.slice (some O) r.length ja) ∧ c_ w' s 0 (.slice aa N.length ba) ∧ c_ w' s 1 (.int .i64 W) ∧ c_ w' s 2 (.int .i64 X) ∧ c_ w' s 3 (.string Y) ∧ w'.cell? (O.add ((l).toNat * 4)) = some (.slice wa ((rd_T29 r l).f0).length xa) ∧ d_ w' (O.add ((l).toNat * 4)) 1 (.int .i64 ((rd_T29 r l).f1)) ∧ d_ w' (O.add ((l).toNat * 4)) 2 (.int .i64 ((rd_T29 r l).f2)) ∧ d_ w' (O.add ((l).toNat * 4)) 3 (.string ((rd_T29 r l).f3))) ∧ (Kd.S k29 29 w' w.heap.size (fun k_ => some k_ ≠ (s_.1 : Value).ownBlock ∧ k_ ≠ s ∧ k_ ≠ s_.2) (.slice ma E.length fa) E) ∧ (Kd.R k99 99 w' w.heap.size (fun _ => True) s_.1 ha) ∧ (w'.heap[ca]? = some (.cells #[.int .i64 Z, .slice (some O) r.length ja] 80 (0, 0))) ∧ (w'.heap[s]? = some (.cells #[.slice aa N.length ba, .int .i64 W, .int .i64 X, .string Y] 29 (0, 0))) ∧ (w'.heap[la]? = some (.cells #[.int .i64 0, .slice none 0 0] 80 (0, 0))) ∧ (w'.heap[ya]? = some (.cells #[.int .i64 ra, .slice ma E.length fa] 80 (0, 0))) ∧ (w'.heap[s_.2]? = some (.cells #[.slice none 0 0, .int .i64 0, .int .i64 0, .string (⟨#[]⟩ : ByteArray)] 29 (0, 0))) ∧ (w.heap.size ≤ s_.2) ∧ (w.heap.size ≤ s_.2) ∧ (ca ≠ s_.2) ∧ (s_.2 ≠ ca) ∧ (s ≠ s_.2) ∧ (s_.2 ≠ s) ∧ (la ≠ s_.2) ∧ (s_.2 ≠ la) ∧ (ya ≠ s_.2) ∧ (s_.2 ≠ ya) ∧ (Below w.heap.size w w')) ?_ ?_
 rotate_left
 ·
  intro qb
  refine two_ (i := 6) (j := 7) (Ni := some 33) (Nj := some 9) (b_ 7 2) (m_ 9 191) rfl rfl rfl rfl (two_of La.1 (by kernel_rfl)) (by decide) (by decide) (fun K hK => ?_) (fun K hK => ?_)
  ·
   skip
   refine gs_ Tryz.func100 #[.agg #[.slice wa ((rd_T29 r l).f0).length xa, .int .i64 ((rd_T29 r l).f1), .int .i64 ((rd_T29 r l).f2), .string ((rd_T29 r l).f3)], .agg #[.slice aa N.length ba, .int .i64 W, .int .i64 X, .string Y]] ?_
   with_reducible refine (spec_Merge.calls _ _ ((rd_T29 r l).f0) ((rd_T29 r l).f1) ((rd_T29 r l).f2) ((rd_T29 r l).f3) _ _ N W X Y ha sa ta ua _ ?_ ?_ ?_ ?_ gc.1).mono ?_
   exact cp_ ((Kd.C_below Ha.1 B.1))
   exact Ua.1
   exact cp_ ((Kd.C_below Da.1 B.1))
   exact Ea.1
   rintro e Le ⟨Ma, rfl, va, hb⟩
   refine ⟨_, rfl, ?_⟩
   replace d := M_ (Kd.S_elder' (sp_ d.1) (Kd.R_base va) hb)
   have V := rw_ va B
   obtain ⟨c, a, m, q, B⟩ := u5_ hb c a m q B
   (try clear hb va)
   refine ho_ hK ⟨bx_ c.1 0, bx_ c.1 1, bx_ a.1 0, bx_ a.1 1, bx_ a.1 2, bx_ a.1 3, ((B.1.cell (World.block_lt_of_cell? w _ A)).trans A), ((B.1.cell (World.block_lt_of_cell? w _ z)).trans z), ((B.1.cell (World.block_lt_of_cell? w _ y)).trans y), ((B.1.cell (World.block_lt_of_cell? w _ x)).trans x)⟩ (fun D => ?_)
   refine o1_ 7 (b_ 8 1) La (fun K hK => ?_)
   refine bs1_ 9 #[.slice none 0 0, .int .i64 0, .int .i64 0, .string (⟨#[]⟩ : ByteArray)] 29 ?_
   intro F hg Me Va hb
   replace d := se_ d hg hb
   replace V := rb_ V hb
   have u := M_ (Va)
   have G := gq_ hg B
   have Qa := gq_ hg B
   replace B := st_ B hb
   have P := nk_ c hg
   have I := Ne_.mk (ng_ c.1 hg)
   replace c := bk2_ c hb
   have Q := nk_ a hg
   have J := Ne_.mk (ng_ a.1 hg)
   replace a := bk2_ a hb
   have T := nk_ m hg
   have L := Ne_.mk (ng_ m.1 hg)
   replace m := bk2_ m hb
   have M := nk_ q hg
   have U := Ne_.mk (ng_ q.1 hg)
   replace q := bk2_ q hb
   clear hb Va hg
   refine ho_ hK ⟨bx_ c.1 0, bx_ c.1 1, bx_ a.1 0, bx_ a.1 1, bx_ a.1 2, bx_ a.1 3, ((B.1.cell (World.block_lt_of_cell? w _ A)).trans A), ((B.1.cell (World.block_lt_of_cell? w _ z)).trans z), ((B.1.cell (World.block_lt_of_cell? w _ y)).trans y), ((B.1.cell (World.block_lt_of_cell? w _ x)).trans x)⟩ (fun D => ?_)
   exact norm_ (by simp only [putAll, fr_]) (qb (Ma, F) _ ⟨D, (Kd.S_mono (sp_ d.1) (fun _ hk => ⟨hk.1.2, ⟨hk.1.1.2, hk.2⟩⟩)), (rp_ V.1), (pb_ c.1), (pb_ a.1), (pb_ m.1), (pb_ q.1), (pb_ u.1), G.1, Qa.1, P.1, I.1, Q.1, J.1, T.1, L.1, M.1, U.1, (hs_ B.1)⟩)
  skip
  refine bs1_ 9 #[.slice none 0 0, .int .i64 0, .int .i64 0, .string (⟨#[]⟩ : ByteArray)] 29 ?_
  intro F hg Le Va hb
  replace d := se_ d hg hb
  have u := M_ (Va)
  have G := gq_ hg B
  have Qa := gq_ hg B
  replace B := st_ B hb
  have P := nk_ c hg
  have I := Ne_.mk (ng_ c.1 hg)
  replace c := bk2_ c hb
  have Q := nk_ a hg
  have J := Ne_.mk (ng_ a.1 hg)
  replace a := bk2_ a hb
  have T := nk_ m hg
  have L := Ne_.mk (ng_ m.1 hg)
  replace m := bk2_ m hb
  have M := nk_ q hg
  have U := Ne_.mk (ng_ q.1 hg)
  replace q := bk2_ q hb
  clear hb Va hg
  refine ho_ hK ⟨bx_ c.1 0, bx_ c.1 1, bx_ a.1 0, bx_ a.1 1, bx_ a.1 2, bx_ a.1 3, ((B.1.cell (World.block_lt_of_cell? w _ A)).trans A), ((B.1.cell (World.block_lt_of_cell? w _ z)).trans z), ((B.1.cell (World.block_lt_of_cell? w _ y)).trans y), ((B.1.cell (World.block_lt_of_cell? w _ x)).trans x)⟩ (fun D => ?_)
  refine o1_ 6 (b_ 8 1) La (fun K hK => ?_)
  refine gs_ Tryz.func100 #[.agg #[.slice wa ((rd_T29 r l).f0).length xa, .int .i64 ((rd_T29 r l).f1), .int .i64 ((rd_T29 r l).f2), .string ((rd_T29 r l).f3)], .agg #[.slice aa N.length ba, .int .i64 W, .int .i64 X, .string Y]] ?_
  with_reducible refine (spec_Merge.calls _ _ ((rd_T29 r l).f0) ((rd_T29 r l).f1) ((rd_T29 r l).f2) ((rd_T29 r l).f3) _ _ N W X Y ha sa ta ua _ ?_ ?_ ?_ ?_ gc.1).mono ?_
  exact cp_ ((Kd.C_below Ha.1 B.1))
  exact Ua.1
  exact cp_ ((Kd.C_below Da.1 B.1))
  exact Ea.1
  rintro e Me ⟨Ma, rfl, va, hb⟩
  refine ⟨_, rfl, ?_⟩
  replace d := M_ (Kd.S_elder' (sp_ d.1) (Kd.R_base va) hb)
  have V := rw_ va B
  obtain ⟨c, a, m, q, u, B⟩ := u6_ hb c a m q u B
  (try clear hb va)
  refine ho_ hK ⟨bx_ c.1 0, bx_ c.1 1, bx_ a.1 0, bx_ a.1 1, bx_ a.1 2, bx_ a.1 3, ((B.1.cell (World.block_lt_of_cell? w _ A)).trans A), ((B.1.cell (World.block_lt_of_cell? w _ z)).trans z), ((B.1.cell (World.block_lt_of_cell? w _ y)).trans y), ((B.1.cell (World.block_lt_of_cell? w _ x)).trans x)⟩ (fun D => ?_)
  exact norm_ (by simp only [putAll, fr_]) (qb (Ma, F) _ ⟨D, (Kd.S_mono (sp_ d.1) (fun _ hk => ⟨hk.2, ⟨hk.1.1.2, hk.1.2⟩⟩)), (rp_ V.1), (pb_ c.1), (pb_ a.1), (pb_ m.1), (pb_ q.1), (pb_ u.1), G.1, Qa.1, P.1, I.1, Q.1, J.1, T.1, L.1, M.1, U.1, (hs_ B.1)⟩)
 rintro ⟨Ma, F⟩ ea ⟨Ne, jc, kc, lc, mc, nc, oc, pc, qc, rc, sc, Ab, Bb, Cb, Db, Eb, Fb, Gb, Hb⟩
 replace d : Aside0 (Kd.S k29 29 ea w.heap.size (fun k_ => some k_ ≠ (Ma : Value).ownBlock ∧ k_ ≠ s ∧ k_ ≠ F) (.slice ma E.length fa) E) := ⟨jc⟩
 have V : Aside0 (Kd.R k99 99 ea w.heap.size (fun _ => True) Ma ha) := ⟨kc⟩
 replace c : Aside0 (ea.heap[ca]? = some (.cells #[.int .i64 Z, .slice (some O) r.length ja] 80 (0, 0))) := ⟨lc⟩
 replace a : Aside0 (ea.heap[s]? = some (.cells #[.slice aa N.length ba, .int .i64 W, .int .i64 X, .string Y] 29 (0, 0))) := ⟨mc⟩
 replace m : Aside0 (ea.heap[la]? = some (.cells #[.int .i64 0, .slice none 0 0] 80 (0, 0))) := ⟨nc⟩
 replace q : Aside0 (ea.heap[ya]? = some (.cells #[.int .i64 ra, .slice ma E.length fa] 80 (0, 0))) := ⟨oc⟩
 have u : Aside0 (ea.heap[F]? = some (.cells #[.slice none 0 0, .int .i64 0, .int .i64 0, .string (⟨#[]⟩ : ByteArray)] 29 (0, 0))) := ⟨pc⟩
 have G := Ge_.mk qc
 have Qa := Ge_.mk rc
 have P := Ne_.mk sc
 have I := Ne_.mk Ab
 have Q := Ne_.mk Bb
 have J := Ne_.mk Cb
 have T := Ne_.mk Db
 have L := Ne_.mk Eb
 have M := Ne_.mk Fb
 have U := Ne_.mk Gb
 replace B : Aside0 (Below w.heap.size w ea) := ⟨Hb⟩
 clear jc kc lc mc nc oc pc qc rc sc Ab Bb Cb Db Eb Fb Gb Hb
 have D : c_ ea ca 0 (.int .i64 Z) ∧ c_ ea ca 1 (.slice (some O) r.length ja) ∧ c_ ea s 0 (.slice aa N.length ba) ∧ c_ ea s 1 (.int .i64 W) ∧ c_ ea s 2 (.int .i64 X) ∧ c_ ea s 3 (.string Y) ∧ ea.cell? (O.add ((l).toNat * 4)) = some (.slice wa ((rd_T29 r l).f0).length xa) ∧ d_ ea (O.add ((l).toNat * 4)) 1 (.int .i64 ((rd_T29 r l).f1)) ∧ d_ ea (O.add ((l).toNat * 4)) 2 (.int .i64 ((rd_T29 r l).f2)) ∧ d_ ea (O.add ((l).toNat * 4)) 3 (.string ((rd_T29 r l).f3)) := Ne
 obtain ⟨Na, Oa, Ib⟩ := Kd.R_slice V.1
 (first | subst Ib | (obtain ⟨rfl, rfl⟩ := si_ Ib))
 refine nm_ ?_
 refine o1_ 8 (b_ 9 0) La (fun K hK => ?_)
 have wf : ea.cell? ⟨F, 0, none⟩ = some (.slice none 0 0) := bx_ u.1 0
 have Oe := blk_frozen u.1 0
 have tc := P.1
 have uc := Q.1
 have vc := T.1
 have wc := M.1
 have xc := I.1
 have yc := J.1
 have zc := L.1
 have Ac := U.1
 have xf : ea.cell? ⟨F, 1, none⟩ = some (.int .i64 0) := bx_ u.1 1
 have Pe := blk_frozen u.1 1
 have Bc := P.1
 have Cc := Q.1
 have Dc := T.1
 have Ec := M.1
 have Fc := I.1
 have Gc := J.1
 have Hc := L.1
 have Ic := U.1
 have yf : ea.cell? ⟨F, 2, none⟩ = some (.int .i64 0) := bx_ u.1 2
 have Qe := blk_frozen u.1 2
 have Jc := P.1
 have Kc := Q.1
 have Lc := T.1
 have Mc := M.1
 have Nc := I.1
 have Oc := J.1
 have Pc := L.1
 have Qc := U.1
 have zf : ea.cell? ⟨F, 3, none⟩ = some (.string (⟨#[]⟩ : ByteArray)) := bx_ u.1 3
 have Re := blk_frozen u.1 3
 have Rc := P.1
 have Sc := Q.1
 have Tc := T.1
 have Uc := M.1
 have Vc := I.1
 have Wc := J.1
 have Xc := L.1
 have Yc := U.1
 refine skip_ (w1 := ?_) (by rfl) rfl ?_ ?_
 rotate_left
 ·
  go_simp
  rfl
 refine hK.out _ _ ⟨(cg_ (D.1)), (cg_ (D.2.1)), (cg_ (D.2.2.1)), (cg_ (D.2.2.2.1)), (cg_ (D.2.2.2.2.1)), (cg_ (D.2.2.2.2.2.1)), (ce_ A G.1 ((ce_ A G.1 ((ce_ A G.1 ((ce_ A G.1 (D.2.2.2.2.2.2.1)))))))), (ce_ z G.1 ((ce_ z G.1 ((ce_ z G.1 ((ce_ z G.1 (D.2.2.2.2.2.2.2.1)))))))), (ce_ y G.1 ((ce_ y G.1 ((ce_ y G.1 ((ce_ y G.1 (D.2.2.2.2.2.2.2.2.1)))))))), (ce_ x G.1 ((ce_ x G.1 ((ce_ x G.1 ((ce_ x G.1 (D.2.2.2.2.2.2.2.2.2))))))))⟩ (fun D => ?_)
 clear hK K
 refine done_ (done_of La.1 (by kernel_rfl)) ?_
 generalize hw_ : ((((ea.setCell ⟨F, 0, none⟩ (.slice Na ha.length Oa)).setCell ⟨F, 1, none⟩ (.int .i64 sa)).setCell ⟨F, 2, none⟩ (.int .i64 ta)).setCell ⟨F, 3, none⟩ (.string ua)) = Ia
 have Zc := ws_ hw_ (Kd.S_mono (ok' := (fun k_ => some k_ ≠ (.slice Na ha.length Oa : Value).ownBlock ∧ k_ ≠ s ∧ k_ ≠ F)) (sf_ F d.1 (fun _ hk => hk.2.2)) (fun _ hk => ⟨hk.1, ⟨hk.2.1, hk.2.2⟩⟩))
 have ad := wr_ hw_ (Kd.R_mono (ok' := (fun _ => True)) (ry_ V.1 u.1) (fun _ hk => trivial))
 replace c := wq_ hw_ c
 replace a := wq_ hw_ a
 replace m := wq_ hw_ m
 replace q := wq_ hw_ q
 replace u := wp_ hw_ #[.slice Na ha.length Oa, .int .i64 sa, .int .i64 ta, .string ua] u
 replace B := wb_ hw_ B
 clear hw_
 (try clear d V)
 have d := Zc
 have V := ad
 clear Zc ad
 have Se := n2_ M
 obtain ⟨Te, Ue, Ve, We⟩ := bc2_ q.1
 have Xe := n2_ I
 have Ye := n2_ J
 have Ze := n2_ L
 obtain ⟨af, bf, cf, df, ef, ff, gf, hf⟩ := bc4_ u.1
 obtain ⟨Xb, Yb⟩ : 0 ≤ (l : Int) ∧ (l : Int) < ((E.length : Int) : Int) := pq_
 obtain ⟨go45, Af, Jb, Kb, gl45, cl45, HG45⟩ := Kd.S_form d.1 (by omega)
 (first | cases Jb | (injection Jb with ea_ en_ ec_; (first | subst ea_ | (injection ea_ with ea_; subst ea_)); subst ec_; clear en_))
 have GB45 := M_ Kb
 have GG45 := M_ HG45
 clear Kb gl45 HG45
 obtain ⟨_, Bf, hcl45, hM45, Ja, hfr45, _, _⟩ := Kd.S_elem d.1 z29 (l : Int) Xb Yb
 obtain ⟨sb, rfl, ed⟩ := k29_openM hM45
 have fd : Ia.cell? ⟨go45, (l : Int).toNat * 4, none⟩ = some (sb) := Ja 0 _ rfl
 have gd : Ia.cell? ⟨go45, (l : Int).toNat * 4 + 1, none⟩ = some (.int .i64 ((rd_T29 E l).f1)) := Ja 1 _ rfl
 have hd : Ia.cell? ⟨go45, (l : Int).toNat * 4 + 2, none⟩ = some (.int .i64 ((rd_T29 E l).f2)) := Ja 2 _ rfl
 have jd : Ia.cell? ⟨go45, (l : Int).toNat * 4 + 3, none⟩ = some (.string ((rd_T29 E l).f3)) := Ja 3 _ rfl
 have hf45_0 : Ia.frozen? ⟨go45, (l : Int).toNat * 4, none⟩ = false := hfr45 0
 have hf45_1 : Ia.frozen? ⟨go45, (l : Int).toNat * 4 + 1, none⟩ = false := hfr45 1
 have hf45_2 : Ia.frozen? ⟨go45, (l : Int).toNat * 4 + 2, none⟩ = false := hfr45 2
 have hf45_3 : Ia.frozen? ⟨go45, (l : Int).toNat * 4 + 3, none⟩ = false := hfr45 3
 clear hcl45 Ja hfr45 hM45
 replace Xb := eq_true Xb; replace Yb := eq_true Yb
 have HX79 := M_ (show Kd.S k29 29 Ia w.heap.size (fun k_ => ((fun k_ => k_ ≠ s ∧ k_ ≠ F)) k_ ∧ ¬ ((fun k_ => some k_ = (.slice Na ha.length Oa : Value).ownBlock)) k_) (.slice (some ⟨go45, 0, none⟩) E.length fa) E from (Kd.S_mono (sp_ d.1) (fun k_ hk => ⟨⟨hk.2.1, hk.2.2⟩, fun e_ => hk.1 e_⟩)))
 obtain ⟨oki79, Cf, hcl79, hM79, Ka, hfr79, hoki79, hH79⟩ := Kd.S_elem HX79.out z29 (l : Int) (of_decide_eq_true (by with_reducible assumption)) (by have h_ : (l : Int) < ((E.length : Int) : Int) := of_decide_eq_true (by with_reducible assumption); first | exact h_ | (have e_ := (Kd.S_reads' d.1).1; omega) | simpa using h_)
 obtain ⟨kd, rfl, ld⟩ := k29_openM hM79
 have HP79 := Kd.S_seg hH79 (of_decide_eq_true (by with_reducible assumption)) (by have h_ : (l : Int) < ((E.length : Int) : Int) := of_decide_eq_true (by with_reducible assumption); first | exact h_ | (have e_ := (Kd.S_reads' d.1).1; omega) | simpa using h_) (seg := [.slice Na ha.length Oa, .int .i64 sa, .int .i64 ta, .string ua]) (j := 0) (show 4 ≤ 4 from by decide) (x' := (⟨ha, sa, ta, ua⟩ : S29)) (k29_mkM _ _ _ (⟨ha, sa, ta, ua⟩ : S29) (Kd.R_mono (Kd.R_tight rfl (Kd.R_mono (ok' := fun k_ => ((fun k_ => k_ ≠ s ∧ k_ ≠ F)) k_ ∧ k_ ≠ go45) (Kd.R_types (Kd.R_types (Kd.R_apart' (V.1) (Kd.S_typed d.1) (by decide)) a.1 (by decide)) u.1 (by decide)) (fun k_ hk => ⟨⟨hk.1.2, hk.2⟩, fun e_ => (hk.1.1.2) (by rw [e_]; rfl)⟩))) (fun _ h_ => Or.inr (h_)))) (fun _ hk => hk) (fun k_ hk_ => ((Kd.R_mono (ok' := fun k_ => ((fun k_ => k_ ≠ s ∧ k_ ≠ F)) k_ ∧ k_ ≠ go45) (Kd.R_types (Kd.R_types (Kd.R_apart' (V.1) (Kd.S_typed d.1) (by decide)) a.1 (by decide)) u.1 (by decide)) (fun k_ hk => ⟨⟨hk.1.2, hk.2⟩, fun e_ => (hk.1.1.2) (by rw [e_]; rfl)⟩))).1 k_ hk_.symm)
 have tb := Ka 0 _ rfl
 (try simp only [show (k29).sz = 4 from rfl, Nat.mul_one, Nat.add_zero] at tb)
 have hf79_0 := hfr79 0
 (try simp only [show (k29).sz = 4 from rfl, Nat.mul_one, Nat.add_zero] at hf79_0)
 have ub := Ka 1 _ rfl
 (try simp only [show (k29).sz = 4 from rfl, Nat.mul_one, Nat.add_zero] at ub)
 have hf79_1 := hfr79 1
 (try simp only [show (k29).sz = 4 from rfl, Nat.mul_one, Nat.add_zero] at hf79_1)
 have vb := Ka 2 _ rfl
 (try simp only [show (k29).sz = 4 from rfl, Nat.mul_one, Nat.add_zero] at vb)
 have hf79_2 := hfr79 2
 (try simp only [show (k29).sz = 4 from rfl, Nat.mul_one, Nat.add_zero] at hf79_2)
 have wb := Ka 3 _ rfl
 (try simp only [show (k29).sz = 4 from rfl, Nat.mul_one, Nat.add_zero] at wb)
 have hf79_3 := hfr79 3
 (try simp only [show (k29).sz = 4 from rfl, Nat.mul_one, Nat.add_zero] at hf79_3)
 clear hcl79 Ka hfr79 hM79 hoki79 hH79
 try go_wp2_with (first | ((with_reducible refine gate_store (t := 29) (p := 38) rfl ?_); refine store_event (t := 29) (p := 38) (v := ?vo_w80) (w1 := ((((Ia.setCell ⟨go45, (l : Int).toNat * 4, none⟩ (.slice Na ha.length Oa)).setCell ⟨go45, (l : Int).toNat * 4 + 1, none⟩ (.int .i64 sa)).setCell ⟨go45, (l : Int).toNat * 4 + 2, none⟩ (.int .i64 ta)).setCell ⟨go45, (l : Int).toNat * 4 + 3, none⟩ (.string ua))) ?hg ?ho ?hn ?hr ?_; (case ho => rfl); (case hg => rfl); (case hn => rfl); (case hr => first | (go_simp; done) | (go_simp; rfl)); intro Zb hw; have hg : Ia.grownBy Zb (some go45) := (by rw [hw]; exact HP79.2); have hp_ : Kd.S k29 29 Zb w.heap.size (fun k_ => k_ ≠ s ∧ k_ ≠ F) (.slice (some ⟨go45, 0, none⟩) E.length fa) zb := (by rw [hw, Wb.1]; exact HP79.1); clear HP79; replace c := bg_ c hg d; replace a := M_ (blk_grown (bq_ a.1) hg (Kd.S_away d.1 (fun _ hk => hk.2.1))); replace m := bg_ m hg d; replace q := bg_ q hg d; replace u := M_ (blk_grown (bq_ u.1) hg (Kd.S_away d.1 (fun _ hk => hk.2.2))); replace d := M_ (hp_); replace B := M_ ((by rw [hw]; exact below_set (below_set (below_set (below_set (B.1) GB45.out) GB45.out) GB45.out) GB45.out : Below w.heap.size w Zb)); clear V; clear hg hw hp_; obtain ⟨jf, kf, lf, mf⟩ := bc2_ q.1; obtain ⟨nf, pf, qf, rf⟩ := bc2_ m.1))
 refine bodyPost_ret (results_ct rfl _ _ la 80 #[.int .i64 ra, .slice (some ⟨go45, 0, none⟩) E.length fa] (0, 0) _ rfl (bp_ m.1) Tryz.underlying80 rfl (by kernel_rfl)) rfl ?_
 exact ⟨_, rr_, Kd.S_mono (sy_ d.1 m.1) (fun _ hk => trivial), hs_ B.1⟩
mutual
def spec_PutIn.l0 : Nat → Int → Int → Int → Int → List (S80) → List (S99) → Int → Int → ByteArray → Int → Int → List (S80) → Option (Int × Int × (List (S80)) × Bool)
 | 0, _, _, _, _, _, _, _, _, _, _, _, _ => none
 | k + 1, m, l, b, c, a, d, e, f, g, h, i, j => if l < (a.length : Int) then (if 0 ≤ l then (spec_PutIn.j1 k m l (decide (((rd_T80 a l).f0) < m)) b c a d e f g h i j) else (none)) else (spec_PutIn.j1 k m l false b c a d e f g h i j)
def spec_PutIn.j1 : Nat → Int → Int → Bool → Int → Int → List (S80) → List (S99) → Int → Int → ByteArray → Int → Int → List (S80) → Option (Int × Int × (List (S80)) × Bool)
 | 0, _, _, _, _, _, _, _, _, _, _, _, _, _ => none
 | k + 1, u, s, t, j, l, m, c, d, e, g, h, i, a => if t = true then (spec_PutIn.l0 k u (wrap64 (s + 1)) j l m c d e g h i a) else ((spec_l4Copy.f c d e g).bind fun b => ((some (([] : List (S80)) : List (S80))).bind fun n => (if 0 ≤ s then (if s ≤ (a.length : Int) then ((some (a.drop (s : Int).toNat : List (S80))).bind fun o => ((some (a.take (s : Int).toNat : List (S80))).bind fun p => (if n.length + p.length < 4398046511104 then ((some (n ++ p : List (S80))).bind fun q => (if q.length < 4398046511104 then ((some (q ++ [(⟨u, (([(⟨b.1, b.2.1, b.2.2.1, b.2.2.2⟩ : S29)] : List (S29)))⟩ : S80)] : List (S80))).bind fun r => (if r.length + o.length < 4398046511104 then (some (h, i, (r ++ o), true)) else (none))) else (none))) else (none)))) else (none)) else (none))))
end
def spec_PutIn.f (k : Nat) (g : Int) (d : Int) (c : List (S80)) (h : List (S99)) (i : Int) (j : Int) (l : ByteArray) : Option (Int × Int × (List (S80)) × Bool) := (spec_l7Copy.f k g d c).bind fun a => ((spec_Finger.f k h).bind fun m => ((spec_l7At.f k g d c m).bind fun b => (if b ≥ 0 then (if 0 ≤ b then (if b < (c.length : Int) then ((spec_PutChain.f k ((rd_T80 c b).f0) ((rd_T80 c b).f1) h i j l).bind fun e => (if b < (a.2.2.length : Int) then (some (a.1, wrap64 (d + 1), (a.2.2.set (b : Int).toNat (⟨e.1, e.2.1⟩ : S80)), e.2.2)) else (none))) else (none)) else (none)) else (spec_PutIn.l0 k m 0 g d c h i j l a.1 (wrap64 (d + 1)) a.2.2))))
def spec_PutIn.T6 : Bool × List (List Nat × List Nat) := (true, [([], []), ([0], [0]), ([], []), ([1, 2], [1, 2]), ([3], [3]), ([], []), ([4, 5], [4, 5]), ([6], [6]), ([7], [7]), ([7], [7]), ([], []), ([10, 8, 6, 0, 1, 2, 3, 4, 5, 6, 7, 8, 10], [8, 10]), ([9, 11, 0, 1, 2, 3, 4, 5, 6, 7, 8, 9, 10, 11], [9])])
def spec_PutIn.B6 : List Nat := [0, 1, 0, 7, 15, 0, 63, 127, 255, 255, 0, 1535, 4095]
theorem spec_PutIn.tab6 : rtab .any (opsOf Tryz.f9 6) = spec_PutIn.T6 := by kernel_rfl
theorem spec_PutIn.bits6 : waitsOk spec_PutIn.T6.2 spec_PutIn.B6 = true := by kernel_rfl
def spec_PutIn.T13 : Bool × List (List Nat × List Nat) := (true, [([], []), ([], []), ([1], [1]), ([], []), ([2, 3], [2, 3]), ([0, 4], [0, 4]), ([], []), ([6], [6]), ([5, 7, 5], [5, 7]), ([], []), ([9], [9]), ([], []), ([10, 11], [10, 11]), ([8, 12, 8], [8, 12]), ([0, 1, 2, 3, 4, 5, 6, 7, 8, 9, 10, 11, 12, 13], []), ([14, 13, 13, 0, 1, 2, 3, 4, 5, 6, 7, 8, 9, 10, 11, 12, 13], [13, 14])])
def spec_PutIn.B13 : List Nat := [0, 0, 2, 0, 14, 31, 0, 64, 255, 0, 512, 0, 3584, 8191, 16383, 32767]
theorem spec_PutIn.tab13 : rtab .any (opsOf Tryz.f9 13) = spec_PutIn.T13 := by kernel_rfl
theorem spec_PutIn.bits13 : waitsOk spec_PutIn.T13.2 spec_PutIn.B13 = true := by kernel_rfl
theorem spec_PutIn.calls (k : Nat) (ka : Int) (G : Int) (db : Option Addr) (Ja : Nat) (I : List (S80)) (ha : Option Addr) (ia : Nat) (W : List (S99)) (Z : Int) (aa : Int) (ba : ByteArray) (r1 : Int) (r2 : Int) (r3 : List (S80)) (r4 : Bool) (w : World) (zc : Kd.C k80 w db I.length I) (Ac : I.length ≤ Ja) (Bc : Kd.C k99 w ha W.length W) (Cc : W.length ≤ ia) (h : spec_PutIn.f k ka G I W Z aa ba = some (r1, r2, r3, r4)) :
  Calls Tryz.prog 9 #[.agg #[.int .i64 ka, .int .i64 G, .slice db I.length Ja], .agg #[.slice ha W.length ia, .int .i64 Z, .int .i64 aa, .string ba]] w fun e w' => ∃ v2_ : Value, e = .returned (.tuple #[.agg #[.int .i64 r1, .int .i64 r2, v2_], .bool r4]) ∧ Kd.S k80 80 w' w.heap.size (fun _ => True) v2_ r3 ∧ Below w.heap.size w w' := by
 have hu26 := Tryz.underlying26
 have hu29 := Tryz.underlying29
 have hu80 := Tryz.underlying80
 have rb := M_ zc
 have Lb := M_ Ac
 clear zc Ac
 have xb := M_ Bc
 have yb := M_ Cc
 clear Bc Cc
 have F := M_ (Below.refl w.heap.size w)
 unfold spec_PutIn.f at h
 have H := h; clear h
 replace H := bi_ H; obtain ⟨⟨ea, kd, s⟩, A3, H⟩ := H; (try dsimp only at H)
 replace H := bi_ H; obtain ⟨O, A4, H⟩ := H
 replace H := bi_ H; obtain ⟨J, A5, H⟩ := H
 replace H := ie_ H; rcases H with ⟨c6, H⟩ | ⟨c6, H⟩
 ·
  have ee : decide (0 ≤ J) = true := decide_eq_true c6
  clear c6
  replace H := i2_ H; obtain ⟨si, ti, H⟩ := H
  replace H := bi_ H; obtain ⟨⟨eb, fb, Jb⟩, A9, H⟩ := H; (try dsimp only at H)
  replace H := id_ H; obtain ⟨sf, H⟩ := H
  obtain ⟨ld, hy_⟩ : ∃ y_ : List (S80), y_ = (s.set (J : Int).toNat (⟨eb, fb⟩ : S80)) := ⟨_, rfl⟩
  replace H : (some (ea, wrap64 (G + 1), ld, Jb)) = some (r1, r2, r3, r4) := hm_
  have xd := M_ hy_; clear hy_
  simp only [Option.some.injEq, Prod.mk.injEq] at H
  obtain ⟨rfl, rfl, rfl, rfl⟩ := H
  go_enter Tryz.func9, Tryz.ntmps9
  try go_wp2_with (first | ((with_reducible refine gd_ 2 rfl ?_); refine bV_ 2 #[.int .i64 ka, .int .i64 G, .slice db I.length Ja] 26 ?_; intro ca hg Ii b hb; have yd := gq_ hg F; replace F := st_ F hb; clear hb hg) | ((with_reducible refine gd_ 3 rfl ?_); refine bV_ 3 #[.slice ha W.length ia, .int .i64 Z, .int .i64 aa, .string ba] 29 ?_; intro m hg Ji a hb; have zd := gq_ hg F; replace F := st_ F hb; obtain ⟨Na, zb, b⟩ := nb_ b hg hb; clear hb hg) | ((with_reducible refine gd_ 4 rfl ?_); refine bV_ 4 #[.int .i64 0, .int .i64 0, .slice none 0 0] 26 ?_; intro ua hg Ki l hb; have Ad := gq_ hg F; replace F := st_ F hb; obtain ⟨Oa, Ab, b⟩ := nb_ b hg hb; obtain ⟨Za, gc, a⟩ := nb_ a hg hb; clear hb hg; have tf := n2_ Na; have uf := n2_ Oa; obtain ⟨vf, wf, xf, yf, zf, Af⟩ := bc3_ b.1) | ((with_reducible refine gate_callee (f := 59) rfl ?_); refine gl_ (some 13) Tryz.func59 #[.agg #[.int .i64 ka, .int .i64 G, .slice db I.length Ja]] ?_; (with_reducible refine (spec_l7Copy.calls k ka G _ _ I ea kd s _ ?_ ?_ A3.1).mono ?_); exact cp_ ((Kd.C_below rb.1 F.1)); exact Lb.1; rintro e Li ⟨fe, rfl, ab, hb⟩; refine ⟨_, rfl, ?_⟩; obtain ⟨Q, hc⟩ := Kd.S_name ab; have u := M_ (Kd.S_lower (Kd.S_newB (Kd.S_gez hc ab) (pb_ a.1)) (below_size (hs_ F.1))); obtain ⟨b, a, l, F⟩ := u4_ hb b a l F; (try clear hb ab)) | ((with_reducible refine gd_ 6 rfl ?_); refine bV_ 6 #[.int .i64 0, .int .i64 0, .slice none 0 0] 26 ?_; intro y hg Mi c hb; replace u := M_ (Kd.S_below (Kd.S_ltz hg (sp_ u.1)) hb); have Bd := gq_ hg F; replace F := st_ F hb; obtain ⟨bb, Pa, b⟩ := nb_ b hg hb; obtain ⟨lb, cb, a⟩ := nb_ a hg hb; obtain ⟨Bb, Qa, l⟩ := nb_ l hg hb; clear hb hg; have Bf := n2_ Pa; have Cf := n2_ cb; have Df := n2_ Qa; obtain ⟨Ef, Ff, Gf, Hf, If, Jf⟩ := bc3_ c.1; obtain ⟨Qb, vb, ge⟩ := Kd.S_slice u.1; subst ge; obtain ⟨Kf, Lf, Mf, Nf, Of, Pf⟩ := bc3_ b.1; have Qf := n2_ Za; obtain ⟨Rf, Sf, Tf, Uf, Vf, Wf, Xf, Yf⟩ := bc4_ a.1) | ((with_reducible refine gate_callee (f := 60) rfl ?_); refine gl_ (some 20) Tryz.func60 #[.slice ha W.length ia] ?_; (with_reducible refine (spec_Finger.calls k _ _ W O _ ?_ ?_ A4.1).mono ?_); exact Kd.C_below xb.1 (hs_ F.1); exact yb.1; rintro e Oi ⟨rfl, hb⟩; refine ⟨_, rfl, ?_⟩; replace u := M_ (Kd.S_below (sy_ u.1 c.1) hb); obtain ⟨b, a, l⟩ := u3_ hb b a l; replace c := by_ c #[.int .i64 ea, .int .i64 (wrap64 (G + 1)), .slice Qb s.length vb] hb; replace F := st_ F hb; (try clear hb); obtain ⟨Zf, ag, bg, cg, dg, eg⟩ := bc3_ b.1) | ((with_reducible refine gate_callee (f := 61) rfl ?_); refine gl_ (some 23) Tryz.func61 #[.agg #[.int .i64 ka, .int .i64 G, .slice db I.length Ja], .int .i64 O] ?_; (with_reducible refine (spec_l7At.calls k ka G _ _ I O J _ ?_ ?_ A5.1).mono ?_); exact cp_ ((Kd.C_below rb.1 F.1)); exact Lb.1; rintro e fg ⟨rfl, hb⟩; refine ⟨_, rfl, ?_⟩; obtain ⟨u, b, a, l, c, F⟩ := u6_ hb u b a l c F; (try clear hb)))
  obtain ⟨u, b, a, l, c, F⟩ := y6_ u b a l c F
  obtain ⟨Dc, Ec⟩ : 0 ≤ (J : Int) ∧ J < (I.length : Int) := pq_
  obtain ⟨Ra, ob, pb, he, Wa, gb, Rb, Sb⟩ := at_T80 rb.1 J Dc Ec
  have fa := gb
  have ga := Wa
  cases he
  replace Wa := c2_ F Wa gb; clear gb; obtain ⟨Wa, gb⟩ := Wa
  have Cb := M_ Sb
  have Tb := M_ Rb
  clear Sb Rb
  replace Dc := eq_true Dc; replace Ec := eq_true Ec
  refine start_ (n := 13) (S := fun w' => c_ w' ca 0 (.int .i64 ka) ∧ c_ w' ca 1 (.int .i64 G) ∧ c_ w' ca 2 (.slice (some Ra) I.length Ja) ∧ c_ w' m 0 (.slice ha W.length ia) ∧ c_ w' m 1 (.int .i64 Z) ∧ c_ w' m 2 (.int .i64 aa) ∧ c_ w' m 3 (.string ba) ∧ w'.cell? (Ra.add ((J).toNat * 2)) = some (.int .i64 ((rd_T80 I J).f0)) ∧ d_ w' (Ra.add ((J).toNat * 2)) 1 (.slice ob ((rd_T80 I J).f1).length pb)) (ds := []) (b_ 0 13) (by kernel_rfl) rfl rfl ⟨bx_ b.1 0, bx_ b.1 1, bx_ b.1 2, bx_ a.1 0, bx_ a.1 1, bx_ a.1 2, bx_ a.1 3, ((F.1.cell (World.block_lt_of_cell? w _ ga)).trans ga), ((F.1.cell (World.block_lt_of_cell? w _ fa)).trans fa)⟩ (fun A => ?_); refine with_tabW spec_PutIn.tab6 spec_PutIn.bits6 (fun ja tc => ?_)
  generalize fg.drew = Pi at u b a l c F Cb Wa gb A ⊢
  refine p_ ja ?_
  refine qw_ 2 (m_ 13 5) ja ?_
  refine qt_ 1 (b_ 3 10) ja tc A ?_
  refine p_ ja ?_
  iterate 2 refine t0_ ja tc A ?_
  refine join_ (σ := Value × Nat × Nat) 2 (b_ 11 2) (fun s_ => [(33, .tuple #[.agg #[.int .i64 eb, s_.1], .bool Jb]), (9, .pointer (some ⟨s_.2.2, 0, none⟩)), (26, .tuple #[.agg #[.int .i64 eb, s_.1], .bool Jb]), (34, .agg #[.int .i64 eb, s_.1]), (35, .bool Jb)]) (fun s_ w' => (c_ w' ca 0 (.int .i64 ka) ∧ c_ w' ca 1 (.int .i64 G) ∧ c_ w' ca 2 (.slice (some Ra) I.length Ja) ∧ c_ w' m 0 (.slice ha W.length ia) ∧ c_ w' m 1 (.int .i64 Z) ∧ c_ w' m 2 (.int .i64 aa) ∧ c_ w' m 3 (.string ba) ∧ w'.cell? (Ra.add ((J).toNat * 2)) = some (.int .i64 ((rd_T80 I J).f0)) ∧ d_ w' (Ra.add ((J).toNat * 2)) 1 (.slice ob ((rd_T80 I J).f1).length pb)) ∧ (Kd.S k80 80 w' w.heap.size (fun k_ => k_ ≠ m ∧ k_ ≠ s_.2.2 ∧ Q ≤ k_ ∧ k_ < y ∧ k_ < s_.2.1) (.slice Qb s.length vb) s) ∧ (Kd.S k29 29 w' w.heap.size (fun k_ => k_ ≠ m ∧ s_.2.1 ≤ k_) s_.1 fb) ∧ (w'.heap[ca]? = some (.cells #[.int .i64 ka, .int .i64 G, .slice (some Ra) I.length Ja] 26 (0, 0))) ∧ (w'.heap[m]? = some (.cells #[.slice ha W.length ia, .int .i64 Z, .int .i64 aa, .string ba] 29 (0, 0))) ∧ (w'.heap[ua]? = some (.cells #[.int .i64 0, .int .i64 0, .slice none 0 0] 26 (0, 0))) ∧ (w'.heap[y]? = some (.cells #[.int .i64 ea, .int .i64 (wrap64 (G + 1)), .slice Qb s.length vb] 26 (0, 0))) ∧ (w'.heap[s_.2.2]? = some (.cells #[.int .i64 0, .slice none 0 0] 80 (0, 0))) ∧ (w.heap.size ≤ s_.2.2) ∧ (w.heap.size ≤ s_.2.2) ∧ (ca ≠ s_.2.2) ∧ (s_.2.2 ≠ ca) ∧ (m ≠ s_.2.2) ∧ (s_.2.2 ≠ m) ∧ (ua ≠ s_.2.2) ∧ (s_.2.2 ≠ ua) ∧ (y ≠ s_.2.2) ∧ (s_.2.2 ≠ y) ∧ (Below w.heap.size w w')) ?_ ?_
  rotate_left
  ·
   intro sb
   refine two_ (i := 6) (j := 10) (Ni := some 33) (Nj := some 9) (b_ 7 6) (m_ 13 1087) rfl rfl rfl rfl (two_of ja.1 (by kernel_rfl)) (by decide) (by decide) (fun K hK => ?_) (fun K hK => ?_)
   ·
    skip
    refine gs_ Tryz.func62 #[.agg #[.int .i64 ((rd_T80 I J).f0), .slice ob ((rd_T80 I J).f1).length pb], .agg #[.slice ha W.length ia, .int .i64 Z, .int .i64 aa, .string ba]] ?_
    with_reducible refine (spec_PutChain.calls k ((rd_T80 I J).f0) _ _ ((rd_T80 I J).f1) _ _ W Z aa ba eb fb Jb _ ?_ ?_ ?_ ?_ A9.1).mono ?_
    exact cp_ ((Kd.C_below Cb.1 F.1))
    exact Tb.1
    exact cp_ ((Kd.C_below xb.1 F.1))
    exact yb.1
    rintro e gg ⟨Ub, rfl, ab, hb⟩
    refine ⟨_, rfl, ?_⟩
    obtain ⟨Ua, Db⟩ := Kd.S_name ab
    replace u := su_ Db (sp_ u.1) hb
    have La := M_ (Kd.S_lower (Kd.S_newB (Kd.S_gez Db ab) (pb_ a.1)) (below_size (hs_ F.1)))
    obtain ⟨b, a, l, c, F⟩ := u5_ hb b a l c F
    (try clear hb ab)
    refine ho_ hK ⟨bx_ b.1 0, bx_ b.1 1, bx_ b.1 2, bx_ a.1 0, bx_ a.1 1, bx_ a.1 2, bx_ a.1 3, ((F.1.cell (World.block_lt_of_cell? w _ ga)).trans ga), ((F.1.cell (World.block_lt_of_cell? w _ fa)).trans fa)⟩ (fun A => ?_)
    iterate 3 refine p_ ja ?_
    refine o1_ 10 (b_ 11 2) ja (fun K hK => ?_)
    refine bs1_ 9 #[.int .i64 0, .slice none 0 0] 80 ?_
    intro va hg ig Va hb
    replace u := se_ u hg hb
    replace La := sb_ La hb
    have la := M_ (Va)
    have ib := gq_ hg F
    have Mb := gq_ hg F
    replace F := st_ F hb
    have ya := nk_ b hg
    have oa := Ne_.mk (ng_ b.1 hg)
    replace b := bk2_ b hb
    have za := nk_ a hg
    have pa := Ne_.mk (ng_ a.1 hg)
    replace a := bk2_ a hb
    have Aa := nk_ l hg
    have qa := Ne_.mk (ng_ l.1 hg)
    replace l := bk2_ l hb
    have ra := nk_ c hg
    have Ba := Ne_.mk (ng_ c.1 hg)
    replace c := bk2_ c hb
    clear hb Va hg
    refine ho_ hK ⟨bx_ b.1 0, bx_ b.1 1, bx_ b.1 2, bx_ a.1 0, bx_ a.1 1, bx_ a.1 2, bx_ a.1 3, ((F.1.cell (World.block_lt_of_cell? w _ ga)).trans ga), ((F.1.cell (World.block_lt_of_cell? w _ fa)).trans fa)⟩ (fun A => ?_)
    exact norm_ (by simp only [putAll, fr_]) (sb (Ub, Ua, va) _ ⟨A, (Kd.S_mono (sp_ u.1) (fun _ hk => ⟨hk.1.1.1.2, ⟨hk.2, ⟨hk.1.1.1.1.2, ⟨hk.1.1.2, hk.1.2⟩⟩⟩⟩)), (Kd.S_mono (sp_ La.1) (fun _ hk => ⟨hk.2, hk.1.2⟩)), (pb_ b.1), (pb_ a.1), (pb_ l.1), (pb_ c.1), (pb_ la.1), ib.1, Mb.1, ya.1, oa.1, za.1, pa.1, Aa.1, qa.1, ra.1, Ba.1, (hs_ F.1)⟩)
   skip
   refine bs1_ 9 #[.int .i64 0, .slice none 0 0] 80 ?_
   intro va hg gg Va hb
   replace u := se_ u hg hb
   have la := M_ (Va)
   have ib := gq_ hg F
   have Mb := gq_ hg F
   replace F := st_ F hb
   have ya := nk_ b hg
   have oa := Ne_.mk (ng_ b.1 hg)
   replace b := bk2_ b hb
   have za := nk_ a hg
   have pa := Ne_.mk (ng_ a.1 hg)
   replace a := bk2_ a hb
   have Aa := nk_ l hg
   have qa := Ne_.mk (ng_ l.1 hg)
   replace l := bk2_ l hb
   have ra := nk_ c hg
   have Ba := Ne_.mk (ng_ c.1 hg)
   replace c := bk2_ c hb
   clear hb Va hg
   refine ho_ hK ⟨bx_ b.1 0, bx_ b.1 1, bx_ b.1 2, bx_ a.1 0, bx_ a.1 1, bx_ a.1 2, bx_ a.1 3, ((F.1.cell (World.block_lt_of_cell? w _ ga)).trans ga), ((F.1.cell (World.block_lt_of_cell? w _ fa)).trans fa)⟩ (fun A => ?_)
   refine o1_ 6 (m_ 13 1151) ja (fun K hK => ?_)
   refine gs_ Tryz.func62 #[.agg #[.int .i64 ((rd_T80 I J).f0), .slice ob ((rd_T80 I J).f1).length pb], .agg #[.slice ha W.length ia, .int .i64 Z, .int .i64 aa, .string ba]] ?_
   with_reducible refine (spec_PutChain.calls k ((rd_T80 I J).f0) _ _ ((rd_T80 I J).f1) _ _ W Z aa ba eb fb Jb _ ?_ ?_ ?_ ?_ A9.1).mono ?_
   exact cp_ ((Kd.C_below Cb.1 F.1))
   exact Tb.1
   exact cp_ ((Kd.C_below xb.1 F.1))
   exact yb.1
   rintro e ig ⟨Ub, rfl, ab, hb⟩
   refine ⟨_, rfl, ?_⟩
   obtain ⟨Ua, Db⟩ := Kd.S_name ab
   replace u := su_ Db (sp_ u.1) hb
   have La := M_ (Kd.S_lower (Kd.S_newB (Kd.S_gez Db ab) (pb_ a.1)) (below_size (hs_ F.1)))
   obtain ⟨b, a, l, c, la, F⟩ := u6_ hb b a l c la F
   (try clear hb ab)
   refine ho_ hK ⟨bx_ b.1 0, bx_ b.1 1, bx_ b.1 2, bx_ a.1 0, bx_ a.1 1, bx_ a.1 2, bx_ a.1 3, ((F.1.cell (World.block_lt_of_cell? w _ ga)).trans ga), ((F.1.cell (World.block_lt_of_cell? w _ fa)).trans fa)⟩ (fun A => ?_)
   refine qw_ 7 (m_ 13 1279) ja ?_
   refine qw_ 8 (m_ 13 1535) ja ?_
   refine qw_ 9 (b_ 11 2) ja ?_
   exact norm_ (by simp only [putAll, fr_]) (sb (Ub, Ua, va) _ ⟨A, (Kd.S_mono (sp_ u.1) (fun _ hk => ⟨hk.1.1.1.2, ⟨hk.1.2, ⟨hk.1.1.1.1.2, ⟨hk.1.1.2, hk.2⟩⟩⟩⟩)), (Kd.S_mono (sp_ La.1) (fun _ hk => ⟨hk.2, hk.1.2⟩)), (pb_ b.1), (pb_ a.1), (pb_ l.1), (pb_ c.1), (pb_ la.1), ib.1, Mb.1, ya.1, oa.1, za.1, pa.1, Aa.1, qa.1, ra.1, Ba.1, (hs_ F.1)⟩)
  rintro ⟨Ub, Ua, va⟩ Xa ⟨Cd, Fc, Gc, Hc, Ic, Jc, Kc, Lc, Mc, Nc, Eb, Vb, Wb, Xb, Yb, Zb, ac, bc, cc⟩
  replace u : Aside0 (Kd.S k80 80 Xa w.heap.size (fun k_ => k_ ≠ m ∧ k_ ≠ va ∧ Q ≤ k_ ∧ k_ < y ∧ k_ < Ua) (.slice Qb s.length vb) s) := ⟨Fc⟩
  have La : Aside0 (Kd.S k29 29 Xa w.heap.size (fun k_ => k_ ≠ m ∧ Ua ≤ k_) Ub fb) := ⟨Gc⟩
  replace b : Aside0 (Xa.heap[ca]? = some (.cells #[.int .i64 ka, .int .i64 G, .slice (some Ra) I.length Ja] 26 (0, 0))) := ⟨Hc⟩
  replace a : Aside0 (Xa.heap[m]? = some (.cells #[.slice ha W.length ia, .int .i64 Z, .int .i64 aa, .string ba] 29 (0, 0))) := ⟨Ic⟩
  replace l : Aside0 (Xa.heap[ua]? = some (.cells #[.int .i64 0, .int .i64 0, .slice none 0 0] 26 (0, 0))) := ⟨Jc⟩
  replace c : Aside0 (Xa.heap[y]? = some (.cells #[.int .i64 ea, .int .i64 (wrap64 (G + 1)), .slice Qb s.length vb] 26 (0, 0))) := ⟨Kc⟩
  have la : Aside0 (Xa.heap[va]? = some (.cells #[.int .i64 0, .slice none 0 0] 80 (0, 0))) := ⟨Lc⟩
  have ib := Ge_.mk Mc
  have Mb := Ge_.mk Nc
  have ya := Ne_.mk Eb
  have oa := Ne_.mk Vb
  have za := Ne_.mk Wb
  have pa := Ne_.mk Xb
  have Aa := Ne_.mk Yb
  have qa := Ne_.mk Zb
  have ra := Ne_.mk ac
  have Ba := Ne_.mk bc
  replace F : Aside0 (Below w.heap.size w Xa) := ⟨cc⟩
  clear Fc Gc Hc Ic Jc Kc Lc Mc Nc Eb Vb Wb Xb Yb Zb ac bc cc
  have A : c_ Xa ca 0 (.int .i64 ka) ∧ c_ Xa ca 1 (.int .i64 G) ∧ c_ Xa ca 2 (.slice (some Ra) I.length Ja) ∧ c_ Xa m 0 (.slice ha W.length ia) ∧ c_ Xa m 1 (.int .i64 Z) ∧ c_ Xa m 2 (.int .i64 aa) ∧ c_ Xa m 3 (.string ba) ∧ Xa.cell? (Ra.add ((J).toNat * 2)) = some (.int .i64 ((rd_T80 I J).f0)) ∧ d_ Xa (Ra.add ((J).toNat * 2)) 1 (.slice ob ((rd_T80 I J).f1).length pb) := Cd
  obtain ⟨rc, sc, md⟩ := Kd.S_slice La.1
  (first | subst md | (obtain ⟨rfl, rfl⟩ := si_ md))
  refine nm_ ?_
  refine o1_ 11 (b_ 12 1) ja (fun K hK => ?_)
  have vi : Xa.cell? ⟨va, 0, none⟩ = some (.int .i64 0) := bx_ la.1 0
  have jg := blk_frozen la.1 0
  have ie := ya.1
  have je := za.1
  have ke := Aa.1
  have le := ra.1
  have me := oa.1
  have ne := pa.1
  have oe := qa.1
  have pe := Ba.1
  have wi : Xa.cell? ⟨va, 1, none⟩ = some (.slice none 0 0) := bx_ la.1 1
  have kg := blk_frozen la.1 1
  have qe := ya.1
  have re := za.1
  have se := Aa.1
  have te := ra.1
  have ue := oa.1
  have ve := pa.1
  have we := qa.1
  have xe := Ba.1
  refine skip_ (w1 := ?_) (by rfl) rfl ?_ ?_
  rotate_left
  ·
   go_simp
   rfl
  refine hK.out _ _ ⟨(cg_ (A.1)), (cg_ (A.2.1)), (cg_ (A.2.2.1)), (cg_ (A.2.2.2.1)), (cg_ (A.2.2.2.2.1)), (cg_ (A.2.2.2.2.2.1)), (cg_ (A.2.2.2.2.2.2.1)), (ce_ ga ib.1 ((ce_ ga ib.1 (A.2.2.2.2.2.2.2.1)))), (ce_ fa ib.1 ((ce_ fa ib.1 (A.2.2.2.2.2.2.2.2))))⟩ (fun A => ?_)
  clear hK K
  refine p_ ja ?_
  refine done_ (done_of ja.1 (by kernel_rfl)) ?_
  generalize hw_ : ((Xa.setCell ⟨va, 0, none⟩ (.int .i64 eb)).setCell ⟨va, 1, none⟩ (.slice rc fb.length sc)) = ic
  have Oc := ws_ hw_ (Kd.S_mono (ok' := (fun k_ => k_ ≠ m ∧ k_ ≠ va ∧ Q ≤ k_ ∧ k_ < y ∧ k_ < Ua)) (sf_ va u.1 (fun _ hk => hk.2.1)) (fun _ hk => ⟨hk.1, ⟨hk.2.1, ⟨hk.2.2.1, ⟨hk.2.2.2.1, hk.2.2.2.2⟩⟩⟩⟩))
  have Pc := ws_ hw_ (Kd.S_mono (ok' := (fun k_ => k_ ≠ m ∧ Ua ≤ k_)) (sy_ La.1 la.1) (fun _ hk => ⟨hk.1, hk.2⟩))
  replace b := wq_ hw_ b
  replace a := wq_ hw_ a
  replace l := wq_ hw_ l
  replace c := wq_ hw_ c
  replace la := wp_ hw_ #[.int .i64 eb, .slice rc fb.length sc] la
  replace F := wb_ hw_ F
  clear hw_
  (try clear u La)
  have u := Oc
  have La := Pc
  clear Oc Pc
  have lg := n2_ ra
  obtain ⟨mg, ng, og, pg, qg, rg⟩ := bc3_ c.1
  have sg := n2_ oa
  have tg := n2_ pa
  have ug := n2_ qa
  obtain ⟨vg, wg, xg, yg⟩ := bc2_ la.1
  obtain ⟨Dd, Ed⟩ : 0 ≤ (J : Int) ∧ (J : Int) < ((s.length : Int) : Int) := pq_
  obtain ⟨go11, xi, nd, od, gl11, cl11, HG11⟩ := Kd.S_form u.1 (by omega)
  (first | cases nd | (injection nd with ea_ en_ ec_; (first | subst ea_ | (injection ea_ with ea_; subst ea_)); subst ec_; clear en_))
  have GB11 := M_ od
  have GG11 := M_ HG11
  clear od gl11 HG11
  obtain ⟨_, yi, hcl11, hM11, jc, hfr11, _, _⟩ := Kd.S_elem u.1 z80 (J : Int) Dd Ed
  obtain ⟨bd, rfl, Le⟩ := k80_openM hM11
  have Me : ic.cell? ⟨go11, (J : Int).toNat * 2, none⟩ = some (.int .i64 ((rd_T80 s J).f0)) := jc 0 _ rfl
  have Ne : ic.cell? ⟨go11, (J : Int).toNat * 2 + 1, none⟩ = some (bd) := jc 1 _ rfl
  have hf11_0 : ic.frozen? ⟨go11, (J : Int).toNat * 2, none⟩ = false := hfr11 0
  have hf11_1 : ic.frozen? ⟨go11, (J : Int).toNat * 2 + 1, none⟩ = false := hfr11 1
  clear hcl11 jc hfr11 hM11
  replace Dd := eq_true Dd; replace Ed := eq_true Ed
  obtain ⟨Fd, cd, wb⟩ := Kd.S_fp (Kd.S_types (Kd.S_apart' (La.1) (Kd.S_typed u.1) (by decide)) la.1 (by decide))
  have HX45 := M_ (show Kd.S k80 80 ic w.heap.size (fun k_ => ((fun k_ => k_ ≠ m ∧ k_ ≠ va)) k_ ∧ ¬ ((fun k_ => Fd k_)) k_) (.slice (some ⟨go11, 0, none⟩) s.length vb) s from (Kd.S_mono (sp_ u.1) (fun k_ hk => ⟨⟨hk.1, hk.2.1⟩, fun e_ => (fun ez_ => Nat.lt_irrefl _ (Nat.lt_of_lt_of_le hk.2.2.2.2 (wb _ ez_).1.1.1.2)) e_⟩)))
  obtain ⟨oki45, zi, hcl45, hM45, kc, hfr45, hoki45, hH45⟩ := Kd.S_elem HX45.out z80 (J : Int) (of_decide_eq_true (by with_reducible assumption)) (by have h_ : (J : Int) < ((s.length : Int) : Int) := of_decide_eq_true (by with_reducible assumption); first | exact h_ | (have e_ := (Kd.S_reads' u.1).1; omega) | simpa using h_)
  obtain ⟨Oe, rfl, Pe⟩ := k80_openM hM45
  have HP45 := Kd.S_seg hH45 (of_decide_eq_true (by with_reducible assumption)) (by have h_ : (J : Int) < ((s.length : Int) : Int) := of_decide_eq_true (by with_reducible assumption); first | exact h_ | (have e_ := (Kd.S_reads' u.1).1; omega) | simpa using h_) (seg := [.int .i64 eb, .slice rc fb.length sc]) (j := 0) (show 2 ≤ 2 from by decide) (x' := (⟨eb, fb⟩ : S80)) (k80_mkM _ _ _ (⟨eb, fb⟩ : S80) (Kd.S_mono cd (fun _ h_ => Or.inr (h_)))) (fun _ hk => hk) (fun k_ hk_ => ⟨⟨(wb k_ hk_).1.1.1.1, (wb k_ hk_).1.2⟩, fun e_ => ((wb k_ hk_).1.1.2) (by rw [e_]; rfl)⟩)
  have dd := kc 0 _ rfl
  (try simp only [show (k80).sz = 2 from rfl, Nat.mul_one, Nat.add_zero] at dd)
  have hf45_0 := hfr45 0
  (try simp only [show (k80).sz = 2 from rfl, Nat.mul_one, Nat.add_zero] at hf45_0)
  have ed := kc 1 _ rfl
  (try simp only [show (k80).sz = 2 from rfl, Nat.mul_one, Nat.add_zero] at ed)
  have hf45_1 := hfr45 1
  (try simp only [show (k80).sz = 2 from rfl, Nat.mul_one, Nat.add_zero] at hf45_1)
  clear hcl45 kc hfr45 hM45 hoki45 hH45
  try go_wp2_with (first | ((with_reducible refine gate_store (t := 80) (p := 40) rfl ?_); refine store_event (t := 80) (p := 40) (v := ?vo_w46) (w1 := ((ic.setCell ⟨go11, (J : Int).toNat * 2, none⟩ (.int .i64 eb)).setCell ⟨go11, (J : Int).toNat * 2 + 1, none⟩ (.slice rc fb.length sc))) ?hg ?ho ?hn ?hr ?_; (case ho => rfl); (case hg => rfl); (case hn => rfl); (case hr => first | (go_simp; done) | (go_simp; rfl)); intro Gd hw; have hg : ic.grownBy Gd (some go11) := (by rw [hw]; exact HP45.2); have hp_ : Kd.S k80 80 Gd w.heap.size (fun k_ => k_ ≠ m ∧ k_ ≠ va) (.slice (some ⟨go11, 0, none⟩) s.length vb) ld := (by rw [hw, xd.1]; exact HP45.1); clear HP45; replace b := bg_ b hg u; replace a := bg_ a hg u; replace l := bg_ l hg u; replace c := bg_ c hg u; replace la := M_ (blk_grown (bq_ la.1) hg (Kd.S_away u.1 (fun _ hk => hk.2.1))); replace u := M_ (hp_); replace F := M_ ((by rw [hw]; exact below_set (below_set (F.1) GB11.out) GB11.out : Below w.heap.size w Gd)); clear La; clear hg hw hp_; obtain ⟨zg, Ag, Bg, Cg, Dg, Eg⟩ := bc3_ c.1; obtain ⟨Fg, Gg, Hg, Ig, Jg, Kg⟩ := bc3_ l.1))
  refine bodyPost_ret (results_ct rfl _ _ ua 26 #[.int .i64 ea, .int .i64 (wrap64 (G + 1)), .slice (some ⟨go11, 0, none⟩) s.length vb] (0, 0) _ rfl (bp_ l.1) Tryz.underlying26 rfl (by kernel_rfl)) rfl ?_
  exact ⟨_, rr_, Kd.S_mono (sy_ u.1 l.1) (fun _ hk => trivial), hs_ F.1⟩
 have ee : decide (0 ≤ J) = false := decide_eq_false c6
 clear c6
 have H' := M_ H
 clear H
 go_enter Tryz.func9, Tryz.ntmps9
 go_wp2_with (first | ((with_reducible refine gd_ 2 rfl ?_); refine bV_ 2 #[.int .i64 ka, .int .i64 G, .slice db I.length Ja] 26 ?_; intro ca hg Qi b hb; have yd := gq_ hg F; replace F := st_ F hb; clear hb hg) | ((with_reducible refine gd_ 3 rfl ?_); refine bV_ 3 #[.slice ha W.length ia, .int .i64 Z, .int .i64 aa, .string ba] 29 ?_; intro m hg Ri a hb; have zd := gq_ hg F; replace F := st_ F hb; obtain ⟨Na, zb, b⟩ := nb_ b hg hb; clear hb hg) | ((with_reducible refine gd_ 4 rfl ?_); refine bV_ 4 #[.int .i64 0, .int .i64 0, .slice none 0 0] 26 ?_; intro ua hg Si l hb; have Ad := gq_ hg F; replace F := st_ F hb; obtain ⟨Oa, Ab, b⟩ := nb_ b hg hb; obtain ⟨Za, gc, a⟩ := nb_ a hg hb; clear hb hg; have Lg := n2_ Na; have Mg := n2_ Oa; obtain ⟨Ng, Og, Pg, Qg, Rg, Sg⟩ := bc3_ b.1) | ((with_reducible refine gate_callee (f := 59) rfl ?_); refine gl_ (some 13) Tryz.func59 #[.agg #[.int .i64 ka, .int .i64 G, .slice db I.length Ja]] ?_; (with_reducible refine (spec_l7Copy.calls k ka G _ _ I ea kd s _ ?_ ?_ A3.1).mono ?_); exact cp_ ((Kd.C_below rb.1 F.1)); exact Lb.1; rintro e Ti ⟨fe, rfl, ab, hb⟩; refine ⟨_, rfl, ?_⟩; obtain ⟨Q, hc⟩ := Kd.S_name ab; have u := M_ (Kd.S_lower (Kd.S_newB (Kd.S_gez hc ab) (pb_ a.1)) (below_size (hs_ F.1))); obtain ⟨b, a, l, F⟩ := u4_ hb b a l F; (try clear hb ab)) | ((with_reducible refine gd_ 6 rfl ?_); refine bV_ 6 #[.int .i64 0, .int .i64 0, .slice none 0 0] 26 ?_; intro y hg Ui c hb; replace u := M_ (Kd.S_below (Kd.S_ltz hg (sp_ u.1)) hb); have Bd := gq_ hg F; replace F := st_ F hb; obtain ⟨bb, Pa, b⟩ := nb_ b hg hb; obtain ⟨lb, cb, a⟩ := nb_ a hg hb; obtain ⟨Bb, Qa, l⟩ := nb_ l hg hb; clear hb hg; have Tg := n2_ Pa; have Ug := n2_ cb; have Vg := n2_ Qa; obtain ⟨Wg, Xg, Yg, Zg, ah, bh⟩ := bc3_ c.1; obtain ⟨L, M, ye⟩ := Kd.S_slice u.1; subst ye; obtain ⟨ch, dh, eh, fh, gh, hh⟩ := bc3_ b.1; have ih := n2_ Za; obtain ⟨jh, kh, lh, mh, nh, oh, ph, qh⟩ := bc4_ a.1) | ((with_reducible refine gate_callee (f := 60) rfl ?_); refine gl_ (some 20) Tryz.func60 #[.slice ha W.length ia] ?_; (with_reducible refine (spec_Finger.calls k _ _ W O _ ?_ ?_ A4.1).mono ?_); exact Kd.C_below xb.1 (hs_ F.1); exact yb.1; rintro e Vi ⟨rfl, hb⟩; refine ⟨_, rfl, ?_⟩; replace u := M_ (Kd.S_below (sy_ u.1 c.1) hb); obtain ⟨b, a, l⟩ := u3_ hb b a l; replace c := by_ c #[.int .i64 ea, .int .i64 (wrap64 (G + 1)), .slice L s.length M] hb; replace F := st_ F hb; (try clear hb); obtain ⟨rh, sh, th, uh, vh, wh⟩ := bc3_ b.1) | ((with_reducible refine gate_callee (f := 61) rfl ?_); refine gl_ (some 23) Tryz.func61 #[.agg #[.int .i64 ka, .int .i64 G, .slice db I.length Ja], .int .i64 O] ?_; (with_reducible refine (spec_l7At.calls k ka G _ _ I O J _ ?_ ?_ A5.1).mono ?_); exact cp_ ((Kd.C_below rb.1 F.1)); exact Lb.1; rintro e Wi ⟨rfl, hb⟩; refine ⟨_, rfl, ?_⟩; obtain ⟨u, b, a, l, c, F⟩ := u6_ hb u b a l c F; (try clear hb)))
 go_loopg [8] k (fun kq v8 w' => ∃ (V : Int), v8 = .int .i64 V ∧ Aside0 (spec_PutIn.l0 kq O V ka G I W Z aa ba ea (wrap64 (G + 1)) s = some (r1, r2, r3, r4)) ∧ Aside0 (kq ≤ k) ∧ Aside0 (Kd.S k80 80 w' w.heap.size (fun k_ => k_ ≠ m ∧ Q ≤ k_ ∧ k_ < y) (.slice L s.length M) s) ∧ Aside0 (w'.heap[ca]? = some (.cells #[.int .i64 ka, .int .i64 G, (.slice db I.length Ja)] 26 (0, 0))) ∧ Aside0 (w'.heap[m]? = some (.cells #[(.slice ha W.length ia), .int .i64 Z, .int .i64 aa, .string ba] 29 (0, 0))) ∧ Aside0 (w'.heap[ua]? = some (.cells #[.int .i64 0, .int .i64 0, (.slice none 0 0)] 26 (0, 0))) ∧ Aside0 (w'.heap[y]? = some (.cells #[.int .i64 ea, .int .i64 (wrap64 (G + 1)), (.slice L s.length M)] 26 (0, 0))) ∧ Aside0 (Below w.heap.size w w'))
 case atStart => exact ⟨(0), rs_, H', ⟨Nat.le_refl _⟩, ⟨Kd.S_mono (sp_ u.1) (fun _ hk => ⟨hk.1.2, ⟨hk.1.1.2, hk.2⟩⟩)⟩, ⟨bq_ b.1⟩, ⟨bq_ a.1⟩, ⟨bq_ l.1⟩, ⟨bq_ c.1⟩, ⟨hs_ F.1⟩⟩
 case round =>
  clear H'
  obtain ⟨V, rfl, HA, fd, d, b, a, l, c, F⟩ := hrel
  cases gk with
  | zero => exact absurd HA.1 (by simp [spec_PutIn.l0])
  | succ k1 =>
   have H := HA.1
   clear HA
   simp only [spec_PutIn.l0] at H
   have Qc := M_ H
   clear H
   go_upto_region 10 with (fail)
   go_cut [57] (fun xh wc => ∃ (kq : Nat) (Nb : Bool), xh = .bool Nb ∧ Aside0 (spec_PutIn.j1 kq O V Nb ka G I W Z aa ba ea (wrap64 (G + 1)) s = some (r1, r2, r3, r4)) ∧ Aside0 (kq ≤ k1) ∧ Aside0 (Kd.S k80 80 wc w.heap.size (fun k_ => k_ ≠ m ∧ Q ≤ k_ ∧ k_ < y) (.slice L s.length M) s) ∧ Aside0 (wc.heap[ca]? = some (.cells #[.int .i64 ka, .int .i64 G, (.slice db I.length Ja)] 26 (0, 0))) ∧ Aside0 (wc.heap[m]? = some (.cells #[(.slice ha W.length ia), .int .i64 Z, .int .i64 aa, .string ba] 29 (0, 0))) ∧ Aside0 (wc.heap[ua]? = some (.cells #[.int .i64 0, .int .i64 0, (.slice none 0 0)] 26 (0, 0))) ∧ Aside0 (wc.heap[y]? = some (.cells #[.int .i64 ea, .int .i64 (wrap64 (G + 1)), (.slice L s.length M)] 26 (0, 0))) ∧ Aside0 (Below w.heap.size w wc))
   case first =>
    have H := Qc.1
    clear Qc
    replace H := ie_ H; rcases H with ⟨Rc, H⟩ | ⟨Rc, H⟩
    ·
     have Fb := decide_eq_true Rc
     clear Rc
     (first | rw [Fb] | (simp only [i64_w, i32_w]; rw [Fb]) | skip)
     replace H := id_ H; obtain ⟨yh, H⟩ := H
     have H' := M_ H
     clear H
     have zh := n2_ Na
     have Ah := n2_ Oa
     have Bh := n2_ bb
     obtain ⟨Ch, Dh, Eh, Fh, Gh, Hh⟩ := bc3_ b.1
     obtain ⟨Ih, Qe, Re, ze, Ae, Be, Ce, De, Ai, Bi⟩ := au_T80 rb.1 F V
     cases ze
     go_wp2
     go_meet
     case rel => exact ⟨_, (decide (((rd_T80 I V).f0) < O)), rs_, H', ⟨by have := fd.1; first | omega | exact Nat.le_refl _⟩, ⟨sp_ d.1⟩, ⟨bq_ b.1⟩, ⟨bq_ a.1⟩, ⟨bq_ l.1⟩, ⟨bq_ c.1⟩, ⟨hs_ F.1⟩⟩
    have Fb : decide (V < (I.length : Int)) = false := decide_eq_false Rc
    clear Rc
    (first | rw [Fb] | (simp only [i64_w, i32_w]; rw [Fb]) | skip)
    have H' := M_ H
    clear H
    have Jh := n2_ Na
    have Kh := n2_ Oa
    have Lh := n2_ bb
    obtain ⟨Mh, Nh, Oh, Ph, Qh, Rh⟩ := bc3_ b.1
    go_wp2
    go_meet
    case rel => exact ⟨_, (false), rs_, H', ⟨by have := fd.1; first | omega | exact Nat.le_refl _⟩, ⟨sp_ d.1⟩, ⟨bq_ b.1⟩, ⟨bq_ a.1⟩, ⟨bq_ l.1⟩, ⟨bq_ c.1⟩, ⟨hs_ F.1⟩⟩
   case rest =>
    clear Qc
    obtain ⟨kq, Nb, rfl, HA, HJ68, d, b, a, l, c, F⟩ := hcut
    cases kq with
    | zero => exact absurd HA.1 (by simp [spec_PutIn.j1])
    | succ Ee =>
     have H := HA.1
     clear HA
     simp only [spec_PutIn.j1] at H
     replace H := ib_ H; rcases H with ⟨rfl, H⟩ | ⟨rfl, H⟩
     ·
      have H' := M_ H
      clear H
      go_wp2
      go_roundg Ee
      case measure => have := fd.1; have := HJ68.1; omega
      case rel => exact ⟨(wrap64 (V + 1)), rs_, H', ⟨by have := fd.1; have := HJ68.1; omega⟩, ⟨sp_ d.1⟩, ⟨bq_ b.1⟩, ⟨bq_ a.1⟩, ⟨bq_ l.1⟩, ⟨bq_ c.1⟩, ⟨hs_ F.1⟩⟩
     replace H := bi_ H; obtain ⟨⟨Kb, dc, ec, fc⟩, Sh, H⟩ := H; (try dsimp only at H)
     obtain ⟨z, hy_⟩ : ∃ y_ : List (S29), y_ = (([(⟨Kb, dc, ec, fc⟩ : S29)] : List (S29))) := ⟨_, rfl⟩
     replace H : ((some (([] : List (S80)) : List (S80))).bind fun Ya => (if 0 ≤ V then (if V ≤ (s.length : Int) then ((some (s.drop (V : Int).toNat : List (S80))).bind fun Ma => ((some (s.take (V : Int).toNat : List (S80))).bind fun Y => (if Ya.length + Y.length < 4398046511104 then ((some (Ya ++ Y : List (S80))).bind fun xa => (if xa.length < 4398046511104 then ((some (xa ++ [(⟨O, z⟩ : S80)] : List (S80))).bind fun wa => (if wa.length + Ma.length < 4398046511104 then (some (ea, (wrap64 (G + 1)), (wa ++ Ma), true)) else (none))) else (none))) else (none)))) else (none)) else (none))) = some (r1, r2, r3, r4) := hm_
     have Id := M_ hy_; clear hy_
     obtain ⟨Ya, hy_⟩ : ∃ y_ : List (S80), y_ = (([] : List (S80))) := ⟨_, rfl⟩
     replace H : (if 0 ≤ V then (if V ≤ (s.length : Int) then ((some (s.drop (V : Int).toNat : List (S80))).bind fun Ma => ((some (s.take (V : Int).toNat : List (S80))).bind fun Y => (if Ya.length + Y.length < 4398046511104 then ((some (Ya ++ Y : List (S80))).bind fun xa => (if xa.length < 4398046511104 then ((some (xa ++ [(⟨O, z⟩ : S80)] : List (S80))).bind fun wa => (if wa.length + Ma.length < 4398046511104 then (some (ea, (wrap64 (G + 1)), (wa ++ Ma), true)) else (none))) else (none))) else (none)))) else (none)) else (none)) = some (r1, r2, r3, r4) := hm_
     have Ob := M_ hy_; clear hy_
     replace H := in_ H; obtain ⟨Jd, H⟩ := H
     have Th := eq_true Jd
     have Uh := decide_eq_true Jd
     clear Jd
     replace H := in_ H; obtain ⟨Ld, H⟩ := H
     have Vh := eq_true Ld
     have Wh := decide_eq_true Ld
     clear Ld
     obtain ⟨Ma, hy_⟩ : ∃ y_ : List (S80), y_ = (s.drop (V : Int).toNat) := ⟨_, rfl⟩
     replace H : ((some (s.take (V : Int).toNat : List (S80))).bind fun Y => (if Ya.length + Y.length < 4398046511104 then ((some (Ya ++ Y : List (S80))).bind fun xa => (if xa.length < 4398046511104 then ((some (xa ++ [(⟨O, z⟩ : S80)] : List (S80))).bind fun wa => (if wa.length + Ma.length < 4398046511104 then (some (ea, (wrap64 (G + 1)), (wa ++ Ma), true)) else (none))) else (none))) else (none))) = some (r1, r2, r3, r4) := hm_
     have Pb := M_ hy_; clear hy_
     obtain ⟨Y, hy_⟩ : ∃ y_ : List (S80), y_ = (s.take (V : Int).toNat) := ⟨_, rfl⟩
     replace H : (if Ya.length + Y.length < 4398046511104 then ((some (Ya ++ Y : List (S80))).bind fun xa => (if xa.length < 4398046511104 then ((some (xa ++ [(⟨O, z⟩ : S80)] : List (S80))).bind fun wa => (if wa.length + Ma.length < 4398046511104 then (some (ea, (wrap64 (G + 1)), (wa ++ Ma), true)) else (none))) else (none))) else (none)) = some (r1, r2, r3, r4) := hm_
     have Sc := M_ hy_; clear hy_
     replace H := im_ H; obtain ⟨lc, H⟩ := H
     obtain ⟨xa, hy_⟩ : ∃ y_ : List (S80), y_ = (Ya ++ Y) := ⟨_, rfl⟩
     replace H : (if xa.length < 4398046511104 then ((some (xa ++ [(⟨O, z⟩ : S80)] : List (S80))).bind fun wa => (if wa.length + Ma.length < 4398046511104 then (some (ea, (wrap64 (G + 1)), (wa ++ Ma), true)) else (none))) else (none)) = some (r1, r2, r3, r4) := hm_
     have mc := M_ hy_; clear hy_
     replace H := im_ H; obtain ⟨Md, H⟩ := H
     obtain ⟨wa, hy_⟩ : ∃ y_ : List (S80), y_ = (xa ++ [(⟨O, z⟩ : S80)]) := ⟨_, rfl⟩
     replace H : (if wa.length + Ma.length < 4398046511104 then (some (ea, (wrap64 (G + 1)), (wa ++ Ma), true)) else (none)) = some (r1, r2, r3, r4) := hm_
     have Nd := M_ hy_; clear hy_
     replace H := im_ H; obtain ⟨Od, H⟩ := H
     obtain ⟨Tc, hy_⟩ : ∃ y_ : List (S80), y_ = (wa ++ Ma) := ⟨_, rfl⟩
     replace H : (some (ea, (wrap64 (G + 1)), Tc, true)) = some (r1, r2, r3, r4) := hm_
     have Pd := M_ hy_; clear hy_
     simp only [Option.some.injEq, Prod.mk.injEq] at H
     obtain ⟨rfl, rfl, rfl, rfl⟩ := H
     have Xh := n2_ zb
     have Yh := n2_ Za
     have Zh := n2_ lb
     obtain ⟨ai, bi, ci, di, ei, fi, gi, hi⟩ := bc4_ a.1
     try go_wp2_with (first | ((with_reducible refine gate_callee (f := 63) rfl ?_); refine gl_ (some 62) Tryz.func63 #[.agg #[.slice ha W.length ia, .int .i64 Z, .int .i64 aa, .string ba]] ?_; (with_reducible refine (spec_l4Copy.calls _ _ W Z aa ba Kb dc ec fc _ ?_ ?_ Sh.1).mono ?_); exact cp_ ((Kd.C_below xb.1 F.1)); exact yb.1; rintro e ii ⟨Ci, rfl, ab, hb⟩; refine ⟨_, rfl, ?_⟩; obtain ⟨U, Uc⟩ := Kd.R_name ab; replace d := su_ Uc (sp_ d.1) hb; have Gb := rg_ Uc ab F; obtain ⟨b, a, l, c, F⟩ := u5_ hb b a l c F; (try clear hb ab); obtain ⟨pd, qd, Fe⟩ := Kd.R_slice Gb.1; subst Fe) | ((with_reducible refine gd_ 63 rfl ?_); refine Kd.S_lit2 k29 w.heap.size 29 ?hg (N := 63) ?hd (x := (⟨Kb, dc, ec, fc⟩ : S29)) (cs := [.slice pd Kb.length qd, .int .i64 dc, .int .i64 ec, .string fc]) (ok := (fun k_ => k_ ≠ m)) (okp := (fun k_ => some k_ = (.slice pd Kb.length qd : Value).ownBlock)) (fun k_ => U ≤ k_) ?hr ?hp (fun k_ hk_ => (fun e_ => e_.1.2) ((Kd.R_types (Gb.1) a.1 (by decide)).1 k_ hk_.symm)) (fun k_ hk_ => ((Kd.R_mono (ok' := (fun k_ => k_ ≠ m)) (Kd.R_types (Gb.1) a.1 (by decide)) (fun k_ hk => hk.2))).1 k_ hk_.symm) ?hf ?aS ?_; (case hd => rfl); (case hg => rfl); (case hr => first | (go_simp; done) | (go_simp; rfl)); (case hp => exact (k29_mkM _ _ _ (⟨Kb, dc, ec, fc⟩ : S29) (Kd.R_mono (Kd.R_tight rfl (Kd.R_mono (ok' := (fun k_ => k_ ≠ m)) (Kd.R_types (Gb.1) a.1 (by decide)) (fun k_ hk => hk.2))) (fun _ h_ => h_)))); (case hf => exact (show ∀ k_, ii.heap.size ≤ k_ → ((fun k_ => k_ ≠ m)) k_ from fun k_ hk => Kd.freshB (g := m) (o := .cells #[.slice ha W.length ia, .int .i64 Z, .int .i64 aa, .string ba] 29 (0, 0)) (pb_ a.1) k_ hk) _ (Nat.le_refl _)); (case aS => exact (below_size (hs_ F.1))); intro Di Zi Vc hb hnew_; rw [← Id.1] at Vc; replace d := M_ (Kd.S_elder' (sp_ d.1) hnew_ hb); have B := M_ (Vc); obtain ⟨b, a, l, c, F⟩ := u5_ hb b a l c F; clear Gb; clear hb hnew_ Vc; obtain ⟨D, E, Ge⟩ := Kd.S_slice B.1; subst Ge) | ((with_reducible refine gd_ 11 rfl ?_); refine bV_ 11 #[.int .i64 0, .slice none 0 0] 80 ?_; intro r hg ji q hb; replace d := M_ (Kd.S_below (Kd.S_ltz hg (Kd.S_elderB (sp_ d.1) r (Nat.le_of_eq hg.symm))) hb); replace B := M_ (Kd.S_below (Kd.S_ltz hg (sp_ B.1)) hb); have ki := gq_ hg F; replace F := st_ F hb; obtain ⟨Qd, nc, b⟩ := nb_ b hg hb; obtain ⟨Rd, oc, a⟩ := nb_ a hg hb; obtain ⟨Sd, pc, l⟩ := nb_ l hg hb; obtain ⟨qc, Hb, c⟩ := nb_ c hg hb; clear hb hg; have li := n2_ nc; have mi := n2_ oc; have ni := n2_ pc; have Se := n2_ Hb; obtain ⟨Te, Ue, Ve, We⟩ := bc2_ q.1))
     generalize hw_ : ((ji.setCell ⟨r, 0, none⟩ (.int .i64 O)).setCell ⟨r, 1, none⟩ (.slice D z.length E)) = He
     have Oc := ws_ hw_ (Kd.S_mono (ok' := (fun k_ => some k_ ≠ (.slice D z.length E : Value).ownBlock ∧ k_ ≠ m ∧ Q ≤ k_ ∧ k_ < y ∧ k_ < U ∧ k_ ≠ r ∧ k_ < r)) (sf_ r d.1 (fun _ hk => hk.1.2)) (fun _ hk => ⟨hk.1.1.2, ⟨hk.1.1.1.1.1, ⟨hk.1.1.1.1.2.1, ⟨hk.1.1.1.1.2.2, ⟨hk.1.1.1.2, ⟨hk.1.2, hk.2⟩⟩⟩⟩⟩⟩))
     have Pc := ws_ hw_ (Kd.S_mono (ok' := (fun k_ => k_ ≠ m ∧ (some k_ = (.slice D z.length E : Value).ownBlock ∨ U ≤ k_) ∧ k_ < r)) (sy_ B.1 q.1) (fun _ hk => ⟨hk.1.1, ⟨hk.1.2, hk.2⟩⟩))
     replace b := wq_ hw_ b
     replace a := wq_ hw_ a
     replace l := wq_ hw_ l
     replace c := wq_ hw_ c
     replace q := wp_ hw_ #[.int .i64 O, .slice D z.length E] q
     replace F := wb_ hw_ F
     clear hw_
     (try clear d B)
     have d := Oc
     have B := Pc
     clear Oc Pc
     have qp103 : (V : Int) ≤ ((s.length : Int) : Int) := of_decide_eq_true (by with_reducible assumption)
     have gd : (0 : Int) ≤ (V : Int) := of_decide_eq_true (by with_reducible assumption)
     have hlxp103 := (Kd.S_reads' d.1).1
     obtain ⟨i0p103, Ib, _, hszp103, _⟩ := info_parts info80
     have hcutp103 := cut_to (P := Tryz.prog) 24 80 .i64 Tryz.underlying24 Ib L s.length M V (of_decide_eq_true (by with_reducible assumption)) qp103 (Kd.S_reads' d.1).2.1
     have hcutbp103 := cut_from (P := Tryz.prog) 24 80 .i64 Tryz.underlying24 Ib 2 hszp103 L s.length M V gd qp103
     have KLp103 := M_ (show (V : Int).toNat ≤ s.length from by omega)
     obtain ⟨GXp103, hsrp103, hspp103, hglp103⟩ := Kd.S_split d.1 ((V : Int).toNat) KLp103.out
     have HGp103 := M_ (show ∀ k_, GXp103 k_ → k_ < r from fun k_ hk => (hglp103 k_ hk).2.2.2.2.2.2)
     have hyp103 : Y.length = (V : Int).toNat := (by rw [Sc.1, List.length_take]; omega)
     rw [← Sc.1] at hspp103
     rw [← hyp103] at hspp103 hcutp103
     obtain ⟨Ap103b, hAbp103⟩ : ∃ A1, A1 = (if M = (V : Int).toNat then L else (L : Option Addr).map (·.add ((V : Int).toNat * 2))) := ⟨_, rfl⟩
     obtain ⟨cp103b, hcbp103⟩ : ∃ c1, c1 = M - (V : Int).toNat := ⟨_, rfl⟩
     have hybp103 : Ma.length = s.length - (V : Int).toNat := (by rw [Pb.1, List.length_drop])
     rw [← hybp103, ← hAbp103, ← hcbp103] at hcutbp103
     have KAp103 := M_ hAbp103
     clear hcbp103 hAbp103 hybp103 hlxp103
     obtain ⟨GXp103P, hPPp103, hlPp103⟩ := Kd.S_fp hspp103
     have HGp103P := M_ (show ∀ k_, GXp103P k_ → k_ < r from fun k_ hk => (hlPp103 k_ hk).1.1.2.2.2.2.2.2)
     obtain ⟨GXp103u0, hPXp103u0, hPlp103u0⟩ := Kd.S_fp (B.1)
     have HGp103u0 := M_ (show ∀ k_, GXp103u0 k_ → k_ < r from fun k_ hk_ => (hPlp103u0 k_ hk_).1.2.2)
     have nup103u0 := M_ (Kd.S_mono hPXp103u0 (fun k_ hk_ => (⟨⟨(hPlp103u0 k_ hk_).1, hk_⟩, fun g_ => Or.elim (hPlp103u0 k_ hk_).1.2.1 (fun e3_ => (hglp103 k_ g_).1 e3_) (fun e3_ => Nat.lt_irrefl _ (Nat.lt_of_lt_of_le (hglp103 k_ g_).2.2.2.2.1 e3_))⟩ : (_ ∧ GXp103u0 k_) ∧ ¬ GXp103 k_)))
     have da := M_ (Kd.S_mono (Kd.S_mono hPPp103 (fun k_ hk_ => (⟨(hlPp103 k_ hk_).1, hk_⟩ : _ ∧ GXp103P k_))) (fun k_ hk => (⟨hk, fun g_ => Or.elim (hPlp103u0 k_ g_).1.2.1 (fun e3_ => hk.1.1.1 e3_) (fun e3_ => Nat.lt_irrefl _ (Nat.lt_of_lt_of_le hk.1.1.2.2.2.2.1 e3_))⟩ : _ ∧ ¬ GXp103u0 k_)))
     clear d
     have d := M_ hsrp103
     clear B
     have B := nup103u0
     clear nup103u0 hPXp103u0 hPlp103u0 hsrp103 hspp103 hglp103 hPPp103 hlPp103 hyp103 Ib hszp103
     replace qp103 := eq_true qp103
     obtain ⟨d, B, da, b, a, l, c, q, F⟩ := y9_ d B da b a l c q F
     refine start_ (n := 16) (S := fun w' => c_ w' y 0 (.int .i64 ea) ∧ c_ w' y 1 (.int .i64 (wrap64 (G + 1))) ∧ c_ w' y 2 (.slice L s.length M) ∧ c_ w' r 0 (.int .i64 O) ∧ c_ w' r 1 (.slice D z.length E)) (ds := [15]) (b_ 0 16) (by kernel_rfl) rfl rfl (f3_ c.1 (e2_ q.1)) (fun A => ?_); refine with_tabW spec_PutIn.tab13 spec_PutIn.bits13 (fun ja tc => ?_)
     generalize He.drew = Ei at d B da b a l c q F A ⊢
     refine qw_ 1 (m_ 16 2) ja ?_
     refine qw_ 3 (m_ 16 10) ja ?_
     refine qw_ 9 (m_ 16 522) ja ?_
     refine qw_ 11 (m_ 16 2570) ja ?_
     refine qt_ 2 (m_ 16 2574) ja tc A ?_
     refine qw_ 4 (m_ 16 2590) ja ?_
     refine qt_ 6 (m_ 16 2654) ja tc A ?_
     refine qt_ 10 (m_ 16 3678) ja tc A ?_
     refine qw_ 12 (m_ 16 7774) ja ?_
     refine join_ (σ := Value × Value × Nat) 4 (m_ 16 7935) (fun s_ => [(65, s_.1), (70, s_.2.1), (72, .slice (some ⟨s_.2.2, 0, none⟩) 1 1)]) (fun s_ w' => (c_ w' y 0 (.int .i64 ea) ∧ c_ w' y 1 (.int .i64 (wrap64 (G + 1))) ∧ c_ w' y 2 (.slice L s.length M) ∧ c_ w' r 0 (.int .i64 O) ∧ c_ w' r 1 (.slice D z.length E)) ∧ (Kd.S k29 29 w' w.heap.size (fun k_ => k_ ≠ m ∧ GXp103u0 k_ ∧ k_ < r ∧ ¬ GXp103 k_ ∧ (some k_ = (.slice D z.length E : Value).ownBlock ∨ U ≤ k_)) (.slice D z.length E) z) ∧ (Kd.S k80 80 w' w.heap.size (fun k_ => some k_ ≠ (.slice D z.length E : Value).ownBlock ∧ some k_ ≠ (.slice L s.length M : Value).ownBlock ∧ k_ ≠ m ∧ k_ ≠ r ∧ k_ ≠ s_.2.2 ∧ ¬ GXp103 k_ ∧ ¬ GXp103u0 k_) s_.2.1 xa) ∧ (Kd.S (Kd.opt k80) 80 w' w.heap.size (fun k_ => some k_ ≠ (.slice D z.length E : Value).ownBlock ∧ some k_ ≠ (s_.2.1 : Value).ownBlock ∧ k_ ≠ m ∧ k_ ≠ r ∧ k_ ≠ s_.2.2 ∧ Q ≤ k_ ∧ GXp103 k_ ∧ k_ < y ∧ k_ < r ∧ k_ < U) (.slice L s.length M) (Kd.gap ((V : Int).toNat) s)) ∧ (w'.heap[ca]? = some (.cells #[.int .i64 ka, .int .i64 G, .slice db I.length Ja] 26 (0, 0))) ∧ (w'.heap[m]? = some (.cells #[.slice ha W.length ia, .int .i64 Z, .int .i64 aa, .string ba] 29 (0, 0))) ∧ (w'.heap[ua]? = some (.cells #[.int .i64 0, .int .i64 0, .slice none 0 0] 26 (0, 0))) ∧ (w'.heap[y]? = some (.cells #[.int .i64 ea, .int .i64 (wrap64 (G + 1)), .slice L s.length M] 26 (0, 0))) ∧ (w'.heap[r]? = some (.cells #[.int .i64 O, .slice D z.length E] 80 (0, 0))) ∧ (w'.heap[s_.2.2]? = some (.cells #[.int .i64 O, .slice D z.length E] 80 (0, 0))) ∧ (w.heap.size ≤ s_.2.2) ∧ (w.heap.size ≤ s_.2.2) ∧ (ca ≠ s_.2.2) ∧ (s_.2.2 ≠ ca) ∧ (m ≠ s_.2.2) ∧ (s_.2.2 ≠ m) ∧ (ua ≠ s_.2.2) ∧ (s_.2.2 ≠ ua) ∧ (y ≠ s_.2.2) ∧ (s_.2.2 ≠ y) ∧ (r ≠ s_.2.2) ∧ (s_.2.2 ≠ r) ∧ (Below w.heap.size w w')) ?_ ?_
     rotate_left
     ·
      intro sb
      refine two_ (i := 0) (j := 7) (Ni := some 65) (Nj := some 72) (m_ 16 7775) (m_ 16 7902) rfl rfl rfl rfl (two_of ja.1 (by kernel_rfl)) (by decide) (by decide) (fun K hK => ?_) (fun K hK => ?_)
      ·
       skip
       refine Kd.S_lit_step k80 _ 80 ?hg (N := 65) ?hd (xs := ([] : List (S80))) (inner := []) (ok := fun _ => True) (okp := fun _ => True) ?hr ?hp (fun _ hk => hk) trivial (Below.refl _ _) (Nat.le_refl _) (by simp) ?_; (case hd => rfl); (case hg => rfl); (case hr => first | (go_simp; done) | (go_simp; rfl)); (case hp => exact (Reps.none _ _))
       intro Ka Ie mb hb hg_ hnew_
       clear hg_ hnew_
       (first | rw [← Ob.1] at mb | (simp only [Int.reduceToNat] at mb; rw [← Ob.1] at mb))
       have R := M_ (Kd.S_lower (Kd.S_newB (Kd.S_newB (Kd.S_new' (Kd.S_new' (Kd.S_new' (Kd.S_ngz HGp103P.out (blk_lt (pb_ q.1)) (Kd.S_ngz HGp103u0.out (blk_lt (pb_ q.1)) (Kd.S_ngz HGp103.out (blk_lt (pb_ q.1)) mb))) (Kd.S_lt (sp_ d.1))) (Kd.S_lt (sp_ B.1))) (Kd.S_lt (sp_ da.1))) (pb_ a.1)) (pb_ q.1)) (below_size (hs_ F.1)))
       replace d := M_ (Kd.S_elder' (sp_ d.1) (Kd.S_base mb) hb)
       replace B := sb_ B hb
       replace da := M_ (Kd.S_elder' (sp_ da.1) (Kd.S_base mb) hb)
       obtain ⟨b, a, l, c, q, F⟩ := u6_ hb b a l c q F
       clear hb mb
       refine ho_ hK (f3_ c.1 (e2_ q.1)) (fun A => ?_)
       refine two_ (i := 5) (j := 7) (Ni := some 70) (Nj := some 72) (m_ 16 7807) (m_ 16 7903) rfl rfl rfl rfl (two_of ja.1 (by kernel_rfl)) (by decide) (by decide) (fun K hK => ?_) (fun K hK => ?_)
       ·
        skip
        refine Kd.S_append_part_step k80 (w0 := w) w.heap.size (by rfl) (.tmp 65) (.tmp 69) 24 80 (.agg #[(.int .i64 0), (.slice none 0 0)]) 32 rfl Tryz.underlying24 info80 rfl (by decide) (by omega) Ka Ya Y _ _ _ (fun k_ => some k_ ≠ (.slice L s.length M : Value).ownBlock ∧ some k_ ≠ (.slice D z.length E : Value).ownBlock ∧ k_ ≠ m ∧ k_ ≠ r ∧ ¬ GXp103 k_ ∧ ¬ GXp103u0 k_) (fun k_ => some k_ ≠ (.slice D z.length E : Value).ownBlock ∧ some k_ ≠ (Ka : Value).ownBlock ∧ k_ ≠ m ∧ Q ≤ k_ ∧ k_ < y ∧ k_ < U ∧ k_ ≠ r ∧ k_ < r ∧ (¬ GXp103 k_ ∨ some k_ = (.slice L Y.length M : Value).ownBlock) ∧ GXp103P k_ ∧ ¬ GXp103u0 k_) rfl rfl ?aR (fun k_ hx_ ho_ => by have hz_ : ((((fun k_ => some k_ ≠ (.slice D z.length E : Value).ownBlock ∧ some k_ ≠ (Ka : Value).ownBlock ∧ k_ ≠ m ∧ Q ≤ k_ ∧ k_ < y ∧ k_ < U ∧ k_ ≠ r ∧ k_ < r ∧ (¬ GXp103 k_ ∨ some k_ = (.slice L Y.length M : Value).ownBlock) ∧ GXp103P k_ ∧ ¬ GXp103u0 k_)) k_ ∧ ¬ GXp103 k_) ∧ some k_ ≠ (.slice L s.length M : Value).ownBlock) := ⟨⟨hx_, fun g_ => (hx_.2.2.2.2.2.2.2.2.1).elim (fun h_ => h_ g_) (fun h_ => ho_ h_)⟩, fun e_ => ho_ (e_.trans Kd.own_len)⟩; exact ⟨⟨hz_.2, ⟨hz_.1.1.1, ⟨hz_.1.1.2.2.1, ⟨hz_.1.1.2.2.2.2.2.2.1, ⟨hz_.1.2, hz_.1.1.2.2.2.2.2.2.2.2.2.2⟩⟩⟩⟩⟩, hz_.1.1.2.1⟩) ?aF ?aO ?aB ?aS ?aL ?_
        (case aR => exact (Kd.S_mono (da.1) (fun k_ hk => ⟨hk.1.1.1.1.1, ⟨hk.2, ⟨hk.1.1.1.1.2.1, ⟨hk.1.1.1.1.2.2.1, ⟨hk.1.1.1.1.2.2.2.1, ⟨hk.1.1.1.1.2.2.2.2.1, ⟨hk.1.1.1.1.2.2.2.2.2.1, ⟨hk.1.1.1.1.2.2.2.2.2.2, ⟨hk.1.1.1.2, ⟨hk.1.1.2, hk.1.2⟩⟩⟩⟩⟩⟩⟩⟩⟩⟩)))
        (case aB => exact (hs_ F.1))
        (case aF => exact (fun k_ hk => ⟨Kd.fresh' (Kd.S_lt (sp_ d.1)) k_ hk, Kd.fresh' (Kd.S_lt (sp_ B.1)) k_ hk, Kd.freshB (g := m) (o := .cells #[.slice ha W.length ia, .int .i64 Z, .int .i64 aa, .string ba] 29 (0, 0)) (pb_ a.1) k_ hk, Kd.freshB (g := r) (o := .cells #[.int .i64 O, .slice D z.length E] 80 (0, 0)) (pb_ q.1) k_ hk, (fun g_ => Nat.lt_irrefl _ (Nat.lt_of_lt_of_le (Nat.lt_trans (HGp103.out k_ g_) (blk_lt (pb_ q.1))) hk)), (fun g_ => Nat.lt_irrefl _ (Nat.lt_of_lt_of_le (Nat.lt_trans (HGp103u0.out k_ g_) (blk_lt (pb_ q.1))) hk))⟩))
        (case aO => exact (Kd.S_mono (sp_ R.1) (fun k_ hk => ⟨⟨hk.1.1.1.1.2, ⟨hk.1.1.1.2, ⟨hk.1.2, ⟨hk.2, ⟨hk.1.1.1.1.1.1.1.2, hk.1.1.1.1.1.1.2⟩⟩⟩⟩⟩, fun e_ => (fun ez_ => hk.1.1.1.1.1.2 ((fun (k9_ : Nat) (Eb : ((fun k_ => some k_ ≠ (.slice D z.length E : Value).ownBlock ∧ some k_ ≠ (Ka : Value).ownBlock ∧ k_ ≠ m ∧ Q ≤ k_ ∧ k_ < y ∧ k_ < U ∧ k_ ≠ r ∧ k_ < r ∧ (¬ GXp103 k_ ∨ some k_ = (.slice L Y.length M : Value).ownBlock) ∧ GXp103P k_ ∧ ¬ GXp103u0 k_)) k9_ ∧ some k9_ ≠ (.slice L Y.length M : Value).ownBlock) => (⟨Eb.1, trivial⟩ : _ ∧ True)) _ ez_).1.2.2.2.2.2.2.2.2.2.1) e_⟩)))
        (case aS => exact (below_size (hs_ F.1)))
        (case aL => have := lc.1; omega)
        intro qb Je ho hb hg hat
        rw [← mc.1] at ho
        replace d := M_ (Kd.S_after (ok := (fun k_ => some k_ ≠ (.slice D z.length E : Value).ownBlock ∧ k_ ≠ m ∧ Q ≤ k_ ∧ k_ < y ∧ k_ < U ∧ k_ ≠ r ∧ k_ < r ∧ GXp103 k_)) (Kd.S_mono (sp_ d.1) (fun _ hk => ⟨⟨hk.1.1.1, ⟨hk.1.1.2.1, ⟨hk.1.1.2.2.1, ⟨hk.1.1.2.2.2.1, ⟨hk.1.1.2.2.2.2.1, ⟨hk.1.1.2.2.2.2.2.1, ⟨hk.1.1.2.2.2.2.2.2, hk.1.2⟩⟩⟩⟩⟩⟩⟩, hk.2⟩)) hg hat)
        replace b := bg_ b hg R
        replace a := bg_ a hg R
        replace l := bg_ l hg R
        replace c := bg_ c hg R
        replace B := M_ (Kd.S_over' (sp_ B.1) (Kd.S_typed (sp_ R.1)) (by decide) hg)
        replace q := M_ (blk_grown (bq_ q.1) hg (Kd.S_away R.1 (fun _ hk => hk.2)))
        replace F := M_ (hb)
        have ma := M_ (ho)
        clear R da
        clear ho hb hg hat
        refine ho_ hK (f3_ c.1 (e2_ q.1)) (fun A => ?_)
        refine o1_ 7 (m_ 16 7935) ja (fun K hK => ?_)
        refine box_stepL ?hg (N := 72) ?hd (cs := #[.int .i64 O, .slice D z.length E]) (t := 80) ?hr ?_; (case hd => rfl); (case hg => rfl); (case hr => first | (go_simp; done) | (go_simp; rfl))
        intro T hg rd Va hb
        replace d := se_ d hg hb
        replace B := sb_ B hb
        replace ma := se_ ma hg hb
        have X := M_ (Va)
        have tb := gq_ hg F
        have ub := gq_ hg F
        replace F := st_ F hb
        have Ca := nk_ b hg
        have Da := Ne_.mk (ng_ b.1 hg)
        replace b := bk2_ b hb
        have Ea := nk_ a hg
        have Fa := Ne_.mk (ng_ a.1 hg)
        replace a := bk2_ a hb
        have sa := nk_ l hg
        have Ga := Ne_.mk (ng_ l.1 hg)
        replace l := bk2_ l hb
        have na := nk_ c hg
        have ta := Ne_.mk (ng_ c.1 hg)
        replace c := bk2_ c hb
        have Ha := nk_ q hg
        have Ia := Ne_.mk (ng_ q.1 hg)
        replace q := bk2_ q hb
        clear hb Va hg
        refine ho_ hK (f3_ c.1 (e2_ q.1)) (fun A => ?_)
        exact norm_ (by simp only [putAll, fr_]) (sb (Ka, qb, T) _ ⟨A, (Kd.S_mono (sp_ B.1) (fun _ hk => ⟨hk.1.1.1, ⟨hk.1.2, ⟨hk.1.1.2.2, ⟨hk.2, hk.1.1.2.1⟩⟩⟩⟩)), (Kd.S_mono (sp_ ma.1) (fun _ hk => ⟨hk.1.2.1, ⟨hk.1.1, ⟨hk.1.2.2.1, ⟨hk.1.2.2.2.1, ⟨hk.2, ⟨hk.1.2.2.2.2.1, hk.1.2.2.2.2.2⟩⟩⟩⟩⟩⟩)), (Kd.S_mono (sp_ d.1) (fun _ hk => ⟨hk.1.1.1, ⟨hk.1.2, ⟨hk.1.1.2.1, ⟨hk.1.1.2.2.2.2.2.1, ⟨hk.2, ⟨hk.1.1.2.2.1, ⟨hk.1.1.2.2.2.2.2.2.2, ⟨hk.1.1.2.2.2.1, ⟨hk.1.1.2.2.2.2.2.2.1, hk.1.1.2.2.2.2.1⟩⟩⟩⟩⟩⟩⟩⟩⟩)), (pb_ b.1), (pb_ a.1), (pb_ l.1), (pb_ c.1), (pb_ q.1), (pb_ X.1), tb.1, ub.1, Ca.1, Da.1, Ea.1, Fa.1, sa.1, Ga.1, na.1, ta.1, Ha.1, Ia.1, (hs_ F.1)⟩)
       skip
       refine box_stepL ?hg (N := 72) ?hd (cs := #[.int .i64 O, .slice D z.length E]) (t := 80) ?hr ?_; (case hd => rfl); (case hg => rfl); (case hr => first | (go_simp; done) | (go_simp; rfl))
       intro T hg Je Va hb
       replace d := se_ d hg hb
       replace B := sb_ B hb
       replace da := se_ da hg hb
       replace R := se_ R hg hb
       have X := M_ (Va)
       have tb := gq_ hg F
       have ub := gq_ hg F
       replace F := st_ F hb
       have Ca := nk_ b hg
       have Da := Ne_.mk (ng_ b.1 hg)
       replace b := bk2_ b hb
       have Ea := nk_ a hg
       have Fa := Ne_.mk (ng_ a.1 hg)
       replace a := bk2_ a hb
       have sa := nk_ l hg
       have Ga := Ne_.mk (ng_ l.1 hg)
       replace l := bk2_ l hb
       have na := nk_ c hg
       have ta := Ne_.mk (ng_ c.1 hg)
       replace c := bk2_ c hb
       have Ha := nk_ q hg
       have Ia := Ne_.mk (ng_ q.1 hg)
       replace q := bk2_ q hb
       clear hb Va hg
       refine ho_ hK (f3_ c.1 (e2_ q.1)) (fun A => ?_)
       refine o1_ 5 (m_ 16 7935) ja (fun K hK => ?_)
       refine Kd.S_append_part_step k80 (w0 := w) w.heap.size (by rfl) (.tmp 65) (.tmp 69) 24 80 (.agg #[(.int .i64 0), (.slice none 0 0)]) 32 rfl Tryz.underlying24 info80 rfl (by decide) (by omega) Ka Ya Y _ _ _ (fun k_ => some k_ ≠ (.slice L s.length M : Value).ownBlock ∧ some k_ ≠ (.slice D z.length E : Value).ownBlock ∧ k_ ≠ m ∧ k_ ≠ r ∧ k_ ≠ T ∧ ¬ GXp103 k_ ∧ ¬ GXp103u0 k_) (fun k_ => some k_ ≠ (.slice D z.length E : Value).ownBlock ∧ some k_ ≠ (Ka : Value).ownBlock ∧ k_ ≠ m ∧ Q ≤ k_ ∧ k_ < y ∧ k_ < U ∧ k_ ≠ r ∧ k_ < r ∧ (¬ GXp103 k_ ∨ some k_ = (.slice L Y.length M : Value).ownBlock) ∧ GXp103P k_ ∧ ¬ GXp103u0 k_ ∧ k_ ≠ T) rfl rfl ?aR (fun k_ hx_ ho_ => by have hz_ : ((((fun k_ => some k_ ≠ (.slice D z.length E : Value).ownBlock ∧ some k_ ≠ (Ka : Value).ownBlock ∧ k_ ≠ m ∧ Q ≤ k_ ∧ k_ < y ∧ k_ < U ∧ k_ ≠ r ∧ k_ < r ∧ (¬ GXp103 k_ ∨ some k_ = (.slice L Y.length M : Value).ownBlock) ∧ GXp103P k_ ∧ ¬ GXp103u0 k_ ∧ k_ ≠ T)) k_ ∧ ¬ GXp103 k_) ∧ some k_ ≠ (.slice L s.length M : Value).ownBlock) := ⟨⟨hx_, fun g_ => (hx_.2.2.2.2.2.2.2.2.1).elim (fun h_ => h_ g_) (fun h_ => ho_ h_)⟩, fun e_ => ho_ (e_.trans Kd.own_len)⟩; exact ⟨⟨hz_.2, ⟨hz_.1.1.1, ⟨hz_.1.1.2.2.1, ⟨hz_.1.1.2.2.2.2.2.2.1, ⟨hz_.1.1.2.2.2.2.2.2.2.2.2.2.2, ⟨hz_.1.2, hz_.1.1.2.2.2.2.2.2.2.2.2.2.1⟩⟩⟩⟩⟩⟩, hz_.1.1.2.1⟩) ?aF ?aO ?aB ?aS ?aL ?_
       (case aR => exact (Kd.S_mono (da.1) (fun k_ hk => ⟨hk.1.1.1.1.1.1, ⟨hk.1.2, ⟨hk.1.1.1.1.1.2.1, ⟨hk.1.1.1.1.1.2.2.1, ⟨hk.1.1.1.1.1.2.2.2.1, ⟨hk.1.1.1.1.1.2.2.2.2.1, ⟨hk.1.1.1.1.1.2.2.2.2.2.1, ⟨hk.1.1.1.1.1.2.2.2.2.2.2, ⟨hk.1.1.1.1.2, ⟨hk.1.1.1.2, ⟨hk.1.1.2, hk.2⟩⟩⟩⟩⟩⟩⟩⟩⟩⟩⟩)))
       (case aB => exact (hs_ F.1))
       (case aF => exact (fun k_ hk => ⟨Kd.fresh' (Kd.S_lt (sp_ d.1)) k_ hk, Kd.fresh' (Kd.S_lt (sp_ B.1)) k_ hk, Kd.freshB (g := m) (o := .cells #[.slice ha W.length ia, .int .i64 Z, .int .i64 aa, .string ba] 29 (0, 0)) (pb_ a.1) k_ hk, Kd.freshB (g := r) (o := .cells #[.int .i64 O, .slice D z.length E] 80 (0, 0)) (pb_ q.1) k_ hk, Kd.freshB (g := T) (o := .cells #[.int .i64 O, .slice D z.length E] 80 (0, 0)) (pb_ X.1) k_ hk, (fun g_ => Nat.lt_irrefl _ (Nat.lt_of_lt_of_le (Nat.lt_trans (HGp103.out k_ g_) (blk_lt (pb_ q.1))) hk)), (fun g_ => Nat.lt_irrefl _ (Nat.lt_of_lt_of_le (Nat.lt_trans (HGp103u0.out k_ g_) (blk_lt (pb_ q.1))) hk))⟩))
       (case aO => exact (Kd.S_mono (sp_ R.1) (fun k_ hk => ⟨⟨hk.1.1.1.1.1.2, ⟨hk.1.1.1.1.2, ⟨hk.1.1.2, ⟨hk.1.2, ⟨hk.2, ⟨hk.1.1.1.1.1.1.1.1.2, hk.1.1.1.1.1.1.1.2⟩⟩⟩⟩⟩⟩, fun e_ => (fun ez_ => hk.1.1.1.1.1.1.2 ((fun (k9_ : Nat) (Eb : ((fun k_ => some k_ ≠ (.slice D z.length E : Value).ownBlock ∧ some k_ ≠ (Ka : Value).ownBlock ∧ k_ ≠ m ∧ Q ≤ k_ ∧ k_ < y ∧ k_ < U ∧ k_ ≠ r ∧ k_ < r ∧ (¬ GXp103 k_ ∨ some k_ = (.slice L Y.length M : Value).ownBlock) ∧ GXp103P k_ ∧ ¬ GXp103u0 k_ ∧ k_ ≠ T)) k9_ ∧ some k9_ ≠ (.slice L Y.length M : Value).ownBlock) => (⟨Eb.1, trivial⟩ : _ ∧ True)) _ ez_).1.2.2.2.2.2.2.2.2.2.1) e_⟩)))
       (case aS => exact (below_size (hs_ F.1)))
       (case aL => have := lc.1; omega)
       intro qb rd ho hb hg hat
       rw [← mc.1] at ho
       replace d := M_ (Kd.S_after (ok := (fun k_ => some k_ ≠ (.slice D z.length E : Value).ownBlock ∧ k_ ≠ m ∧ Q ≤ k_ ∧ k_ < y ∧ k_ < U ∧ k_ ≠ r ∧ k_ < r ∧ GXp103 k_ ∧ k_ ≠ T)) (Kd.S_mono (sp_ d.1) (fun _ hk => ⟨⟨hk.1.1.1.1, ⟨hk.1.1.1.2.1, ⟨hk.1.1.1.2.2.1, ⟨hk.1.1.1.2.2.2.1, ⟨hk.1.1.1.2.2.2.2.1, ⟨hk.1.1.1.2.2.2.2.2.1, ⟨hk.1.1.1.2.2.2.2.2.2, ⟨hk.1.1.2, hk.2⟩⟩⟩⟩⟩⟩⟩⟩, hk.1.2⟩)) hg hat)
       replace b := bg_ b hg R
       replace a := bg_ a hg R
       replace l := bg_ l hg R
       replace c := bg_ c hg R
       replace B := M_ (Kd.S_over' (sp_ B.1) (Kd.S_typed (sp_ R.1)) (by decide) hg)
       replace q := M_ (blk_grown (bq_ q.1) hg (Kd.S_away R.1 (fun _ hk => hk.1.2)))
       replace X := M_ (blk_grown (bq_ X.1) hg (Kd.S_away R.1 (fun _ hk => hk.2)))
       replace F := M_ (hb)
       have ma := M_ (ho)
       clear R da
       clear ho hb hg hat
       refine ho_ hK (f3_ c.1 (e2_ q.1)) (fun A => ?_)
       exact norm_ (by simp only [putAll, fr_]) (sb (Ka, qb, T) _ ⟨A, (Kd.S_mono (sp_ B.1) (fun _ hk => ⟨hk.1.1.1, ⟨hk.1.2, ⟨hk.1.1.2.2, ⟨hk.2, hk.1.1.2.1⟩⟩⟩⟩)), (Kd.S_mono (sp_ ma.1) (fun _ hk => ⟨hk.2.1, ⟨hk.1, ⟨hk.2.2.1, ⟨hk.2.2.2.1, ⟨hk.2.2.2.2.1, ⟨hk.2.2.2.2.2.1, hk.2.2.2.2.2.2⟩⟩⟩⟩⟩⟩)), (Kd.S_mono (sp_ d.1) (fun _ hk => ⟨hk.1.1, ⟨hk.2, ⟨hk.1.2.1, ⟨hk.1.2.2.2.2.2.1, ⟨hk.1.2.2.2.2.2.2.2.2, ⟨hk.1.2.2.1, ⟨hk.1.2.2.2.2.2.2.2.1, ⟨hk.1.2.2.2.1, ⟨hk.1.2.2.2.2.2.2.1, hk.1.2.2.2.2.1⟩⟩⟩⟩⟩⟩⟩⟩⟩)), (pb_ b.1), (pb_ a.1), (pb_ l.1), (pb_ c.1), (pb_ q.1), (pb_ X.1), tb.1, ub.1, Ca.1, Da.1, Ea.1, Fa.1, sa.1, Ga.1, na.1, ta.1, Ha.1, Ia.1, (hs_ F.1)⟩)
      skip
      refine box_stepL ?hg (N := 72) ?hd (cs := #[.int .i64 O, .slice D z.length E]) (t := 80) ?hr ?_; (case hd => rfl); (case hg => rfl); (case hr => first | (go_simp; done) | (go_simp; rfl))
      intro T hg Ie Va hb
      replace d := se_ d hg hb
      replace B := sb_ B hb
      replace da := se_ da hg hb
      have X := M_ (Va)
      have tb := gq_ hg F
      have ub := gq_ hg F
      replace F := st_ F hb
      have Ca := nk_ b hg
      have Da := Ne_.mk (ng_ b.1 hg)
      replace b := bk2_ b hb
      have Ea := nk_ a hg
      have Fa := Ne_.mk (ng_ a.1 hg)
      replace a := bk2_ a hb
      have sa := nk_ l hg
      have Ga := Ne_.mk (ng_ l.1 hg)
      replace l := bk2_ l hb
      have na := nk_ c hg
      have ta := Ne_.mk (ng_ c.1 hg)
      replace c := bk2_ c hb
      have Ha := nk_ q hg
      have Ia := Ne_.mk (ng_ q.1 hg)
      replace q := bk2_ q hb
      clear hb Va hg
      refine ho_ hK (f3_ c.1 (e2_ q.1)) (fun A => ?_)
      refine o1_ 0 (m_ 16 7903) ja (fun K hK => ?_)
      refine Kd.S_lit_step k80 _ 80 ?hg (N := 65) ?hd (xs := ([] : List (S80))) (inner := []) (ok := fun _ => True) (okp := fun _ => True) ?hr ?hp (fun _ hk => hk) trivial (Below.refl _ _) (Nat.le_refl _) (by simp) ?_; (case hd => rfl); (case hg => rfl); (case hr => first | (go_simp; done) | (go_simp; rfl)); (case hp => exact (Reps.none _ _))
      intro Ka Fi nb hb hg_ hnew_
      clear hg_ hnew_
      (first | rw [← Ob.1] at nb | (simp only [Int.reduceToNat] at nb; rw [← Ob.1] at nb))
      have R := M_ (Kd.S_lower (Kd.S_newB (Kd.S_newB (Kd.S_newB (Kd.S_new' (Kd.S_new' (Kd.S_new' (Kd.S_ngz HGp103P.out (blk_lt (pb_ q.1)) (Kd.S_ngz HGp103u0.out (blk_lt (pb_ q.1)) (Kd.S_ngz HGp103.out (blk_lt (pb_ q.1)) nb))) (Kd.S_lt (sp_ d.1))) (Kd.S_lt (sp_ B.1))) (Kd.S_lt (sp_ da.1))) (pb_ a.1)) (pb_ q.1)) (pb_ X.1)) (below_size (hs_ F.1)))
      replace d := M_ (Kd.S_elder' (sp_ d.1) (Kd.S_base nb) hb)
      replace B := sb_ B hb
      replace da := M_ (Kd.S_elder' (sp_ da.1) (Kd.S_base nb) hb)
      obtain ⟨b, a, l, c, q, X, F⟩ := u7_ hb b a l c q X F
      clear hb nb
      refine ho_ hK (f3_ c.1 (e2_ q.1)) (fun A => ?_)
      refine o1_ 5 (m_ 16 7935) ja (fun K hK => ?_)
      refine Kd.S_append_part_step k80 (w0 := w) w.heap.size (by rfl) (.tmp 65) (.tmp 69) 24 80 (.agg #[(.int .i64 0), (.slice none 0 0)]) 32 rfl Tryz.underlying24 info80 rfl (by decide) (by omega) Ka Ya Y _ _ _ (fun k_ => some k_ ≠ (.slice L s.length M : Value).ownBlock ∧ some k_ ≠ (.slice D z.length E : Value).ownBlock ∧ k_ ≠ m ∧ k_ ≠ r ∧ k_ ≠ T ∧ ¬ GXp103 k_ ∧ ¬ GXp103u0 k_) (fun k_ => some k_ ≠ (.slice D z.length E : Value).ownBlock ∧ some k_ ≠ (Ka : Value).ownBlock ∧ k_ ≠ m ∧ Q ≤ k_ ∧ k_ < y ∧ k_ < U ∧ k_ ≠ r ∧ k_ < r ∧ (¬ GXp103 k_ ∨ some k_ = (.slice L Y.length M : Value).ownBlock) ∧ GXp103P k_ ∧ ¬ GXp103u0 k_ ∧ k_ ≠ T) rfl rfl ?aR (fun k_ hx_ ho_ => by have hz_ : ((((fun k_ => some k_ ≠ (.slice D z.length E : Value).ownBlock ∧ some k_ ≠ (Ka : Value).ownBlock ∧ k_ ≠ m ∧ Q ≤ k_ ∧ k_ < y ∧ k_ < U ∧ k_ ≠ r ∧ k_ < r ∧ (¬ GXp103 k_ ∨ some k_ = (.slice L Y.length M : Value).ownBlock) ∧ GXp103P k_ ∧ ¬ GXp103u0 k_ ∧ k_ ≠ T)) k_ ∧ ¬ GXp103 k_) ∧ some k_ ≠ (.slice L s.length M : Value).ownBlock) := ⟨⟨hx_, fun g_ => (hx_.2.2.2.2.2.2.2.2.1).elim (fun h_ => h_ g_) (fun h_ => ho_ h_)⟩, fun e_ => ho_ (e_.trans Kd.own_len)⟩; exact ⟨⟨hz_.2, ⟨hz_.1.1.1, ⟨hz_.1.1.2.2.1, ⟨hz_.1.1.2.2.2.2.2.2.1, ⟨hz_.1.1.2.2.2.2.2.2.2.2.2.2.2, ⟨hz_.1.2, hz_.1.1.2.2.2.2.2.2.2.2.2.2.1⟩⟩⟩⟩⟩⟩, hz_.1.1.2.1⟩) ?aF ?aO ?aB ?aS ?aL ?_
      (case aR => exact (Kd.S_mono (da.1) (fun k_ hk => ⟨hk.1.1.1.1.1.1, ⟨hk.2, ⟨hk.1.1.1.1.1.2.1, ⟨hk.1.1.1.1.1.2.2.1, ⟨hk.1.1.1.1.1.2.2.2.1, ⟨hk.1.1.1.1.1.2.2.2.2.1, ⟨hk.1.1.1.1.1.2.2.2.2.2.1, ⟨hk.1.1.1.1.1.2.2.2.2.2.2, ⟨hk.1.1.1.1.2, ⟨hk.1.1.1.2, ⟨hk.1.1.2, hk.1.2⟩⟩⟩⟩⟩⟩⟩⟩⟩⟩⟩)))
      (case aB => exact (hs_ F.1))
      (case aF => exact (fun k_ hk => ⟨Kd.fresh' (Kd.S_lt (sp_ d.1)) k_ hk, Kd.fresh' (Kd.S_lt (sp_ B.1)) k_ hk, Kd.freshB (g := m) (o := .cells #[.slice ha W.length ia, .int .i64 Z, .int .i64 aa, .string ba] 29 (0, 0)) (pb_ a.1) k_ hk, Kd.freshB (g := r) (o := .cells #[.int .i64 O, .slice D z.length E] 80 (0, 0)) (pb_ q.1) k_ hk, Kd.freshB (g := T) (o := .cells #[.int .i64 O, .slice D z.length E] 80 (0, 0)) (pb_ X.1) k_ hk, (fun g_ => Nat.lt_irrefl _ (Nat.lt_of_lt_of_le (Nat.lt_trans (HGp103.out k_ g_) (blk_lt (pb_ q.1))) hk)), (fun g_ => Nat.lt_irrefl _ (Nat.lt_of_lt_of_le (Nat.lt_trans (HGp103u0.out k_ g_) (blk_lt (pb_ q.1))) hk))⟩))
      (case aO => exact (Kd.S_mono (sp_ R.1) (fun k_ hk => ⟨⟨hk.1.1.1.1.1.2, ⟨hk.1.1.1.1.2, ⟨hk.1.1.2, ⟨hk.1.2, ⟨hk.2, ⟨hk.1.1.1.1.1.1.1.1.2, hk.1.1.1.1.1.1.1.2⟩⟩⟩⟩⟩⟩, fun e_ => (fun ez_ => hk.1.1.1.1.1.1.2 ((fun (k9_ : Nat) (Eb : ((fun k_ => some k_ ≠ (.slice D z.length E : Value).ownBlock ∧ some k_ ≠ (Ka : Value).ownBlock ∧ k_ ≠ m ∧ Q ≤ k_ ∧ k_ < y ∧ k_ < U ∧ k_ ≠ r ∧ k_ < r ∧ (¬ GXp103 k_ ∨ some k_ = (.slice L Y.length M : Value).ownBlock) ∧ GXp103P k_ ∧ ¬ GXp103u0 k_ ∧ k_ ≠ T)) k9_ ∧ some k9_ ≠ (.slice L Y.length M : Value).ownBlock) => (⟨Eb.1, trivial⟩ : _ ∧ True)) _ ez_).1.2.2.2.2.2.2.2.2.2.1) e_⟩)))
      (case aS => exact (below_size (hs_ F.1)))
      (case aL => have := lc.1; omega)
      intro qb rd ho hb hg hat
      rw [← mc.1] at ho
      replace d := M_ (Kd.S_after (ok := (fun k_ => some k_ ≠ (.slice D z.length E : Value).ownBlock ∧ k_ ≠ m ∧ Q ≤ k_ ∧ k_ < y ∧ k_ < U ∧ k_ ≠ r ∧ k_ < r ∧ GXp103 k_ ∧ k_ ≠ T)) (Kd.S_mono (sp_ d.1) (fun _ hk => ⟨⟨hk.1.1.1.1, ⟨hk.1.1.1.2.1, ⟨hk.1.1.1.2.2.1, ⟨hk.1.1.1.2.2.2.1, ⟨hk.1.1.1.2.2.2.2.1, ⟨hk.1.1.1.2.2.2.2.2.1, ⟨hk.1.1.1.2.2.2.2.2.2, ⟨hk.1.1.2, hk.1.2⟩⟩⟩⟩⟩⟩⟩⟩, hk.2⟩)) hg hat)
      replace b := bg_ b hg R
      replace a := bg_ a hg R
      replace l := bg_ l hg R
      replace c := bg_ c hg R
      replace B := M_ (Kd.S_over' (sp_ B.1) (Kd.S_typed (sp_ R.1)) (by decide) hg)
      replace q := M_ (blk_grown (bq_ q.1) hg (Kd.S_away R.1 (fun _ hk => hk.1.2)))
      replace X := M_ (blk_grown (bq_ X.1) hg (Kd.S_away R.1 (fun _ hk => hk.2)))
      replace F := M_ (hb)
      have ma := M_ (ho)
      clear R da
      clear ho hb hg hat
      refine ho_ hK (f3_ c.1 (e2_ q.1)) (fun A => ?_)
      exact norm_ (by simp only [putAll, fr_]) (sb (Ka, qb, T) _ ⟨A, (Kd.S_mono (sp_ B.1) (fun _ hk => ⟨hk.1.1.1, ⟨hk.1.2, ⟨hk.1.1.2.2, ⟨hk.2, hk.1.1.2.1⟩⟩⟩⟩)), (Kd.S_mono (sp_ ma.1) (fun _ hk => ⟨hk.2.1, ⟨hk.1, ⟨hk.2.2.1, ⟨hk.2.2.2.1, ⟨hk.2.2.2.2.1, ⟨hk.2.2.2.2.2.1, hk.2.2.2.2.2.2⟩⟩⟩⟩⟩⟩)), (Kd.S_mono (sp_ d.1) (fun _ hk => ⟨hk.1.1, ⟨hk.2, ⟨hk.1.2.1, ⟨hk.1.2.2.2.2.2.1, ⟨hk.1.2.2.2.2.2.2.2.2, ⟨hk.1.2.2.1, ⟨hk.1.2.2.2.2.2.2.2.1, ⟨hk.1.2.2.2.1, ⟨hk.1.2.2.2.2.2.2.1, hk.1.2.2.2.2.1⟩⟩⟩⟩⟩⟩⟩⟩⟩)), (pb_ b.1), (pb_ a.1), (pb_ l.1), (pb_ c.1), (pb_ q.1), (pb_ X.1), tb.1, ub.1, Ca.1, Da.1, Ea.1, Fa.1, sa.1, Ga.1, na.1, ta.1, Ha.1, Ia.1, (hs_ F.1)⟩)
     rintro ⟨Ka, qb, T⟩ Sa ⟨Cd, Fc, Gc, Hc, Ic, Jc, Kc, Lc, Mc, Nc, Eb, Vb, Wb, Xb, Yb, Zb, ac, bc, cc, sd, td, ud, vd⟩
     replace B : Aside0 (Kd.S k29 29 Sa w.heap.size (fun k_ => k_ ≠ m ∧ GXp103u0 k_ ∧ k_ < r ∧ ¬ GXp103 k_ ∧ (some k_ = (.slice D z.length E : Value).ownBlock ∨ U ≤ k_)) (.slice D z.length E) z) := ⟨Fc⟩
     have ma : Aside0 (Kd.S k80 80 Sa w.heap.size (fun k_ => some k_ ≠ (.slice D z.length E : Value).ownBlock ∧ some k_ ≠ (.slice L s.length M : Value).ownBlock ∧ k_ ≠ m ∧ k_ ≠ r ∧ k_ ≠ T ∧ ¬ GXp103 k_ ∧ ¬ GXp103u0 k_) qb xa) := ⟨Gc⟩
     replace d : Aside0 (Kd.S (Kd.opt k80) 80 Sa w.heap.size (fun k_ => some k_ ≠ (.slice D z.length E : Value).ownBlock ∧ some k_ ≠ (qb : Value).ownBlock ∧ k_ ≠ m ∧ k_ ≠ r ∧ k_ ≠ T ∧ Q ≤ k_ ∧ GXp103 k_ ∧ k_ < y ∧ k_ < r ∧ k_ < U) (.slice L s.length M) (Kd.gap ((V : Int).toNat) s)) := ⟨Hc⟩
     replace b : Aside0 (Sa.heap[ca]? = some (.cells #[.int .i64 ka, .int .i64 G, .slice db I.length Ja] 26 (0, 0))) := ⟨Ic⟩
     replace a : Aside0 (Sa.heap[m]? = some (.cells #[.slice ha W.length ia, .int .i64 Z, .int .i64 aa, .string ba] 29 (0, 0))) := ⟨Jc⟩
     replace l : Aside0 (Sa.heap[ua]? = some (.cells #[.int .i64 0, .int .i64 0, .slice none 0 0] 26 (0, 0))) := ⟨Kc⟩
     replace c : Aside0 (Sa.heap[y]? = some (.cells #[.int .i64 ea, .int .i64 (wrap64 (G + 1)), .slice L s.length M] 26 (0, 0))) := ⟨Lc⟩
     replace q : Aside0 (Sa.heap[r]? = some (.cells #[.int .i64 O, .slice D z.length E] 80 (0, 0))) := ⟨Mc⟩
     have X : Aside0 (Sa.heap[T]? = some (.cells #[.int .i64 O, .slice D z.length E] 80 (0, 0))) := ⟨Nc⟩
     have tb := Ge_.mk Eb
     have ub := Ge_.mk Vb
     have Ca := Ne_.mk Wb
     have Da := Ne_.mk Xb
     have Ea := Ne_.mk Yb
     have Fa := Ne_.mk Zb
     have sa := Ne_.mk ac
     have Ga := Ne_.mk bc
     have na := Ne_.mk cc
     have ta := Ne_.mk sd
     have Ha := Ne_.mk td
     have Ia := Ne_.mk ud
     replace F : Aside0 (Below w.heap.size w Sa) := ⟨vd⟩
     clear da Fc Gc Hc Ic Jc Kc Lc Mc Nc Eb Vb Wb Xb Yb Zb ac bc cc sd td ud vd
     have A : c_ Sa y 0 (.int .i64 ea) ∧ c_ Sa y 1 (.int .i64 (wrap64 (G + 1))) ∧ c_ Sa y 2 (.slice L s.length M) ∧ c_ Sa r 0 (.int .i64 O) ∧ c_ Sa r 1 (.slice D z.length E) := Cd
     obtain ⟨jd, Wc, Ta⟩ := Kd.S_fp (Kd.S_types (Kd.S_types (Kd.S_apart' (Kd.S_apart' (B.1) (Kd.S_typed d.1) (by decide)) (Kd.S_typed ma.1) (by decide)) q.1 (by decide)) X.1 (by decide))
     refine nm_ ?_
     refine o1_ 8 (b_ 13 3) ja (fun K hK => ?_)
     refine Kd.S_append_box_step k80 (w0 := w) w.heap.size (by rfl) (.tmp 70) (.tmp 72) 24 80 (.agg #[(.int .i64 0), (.slice none 0 0)]) 32 rfl Tryz.underlying24 info80 rfl (by decide) (by omega) qb xa (⟨O, z⟩ : S80) [.int .i64 O, .slice D z.length E] (fun k_ => some k_ ≠ (.slice L s.length M : Value).ownBlock ∧ k_ ≠ m ∧ k_ ≠ r ∧ k_ ≠ T ∧ ¬ GXp103 k_) (fun k_ => jd k_) T (pb_ X.1) rfl rfl ?aP (fun k_ hk_ => ⟨⟨(Ta k_ hk_).1.1.1.1.2, ⟨(Ta k_ hk_).1.1.1.1.1.1, ⟨(Ta k_ hk_).1.1.2, ⟨(Ta k_ hk_).1.2, (Ta k_ hk_).1.1.1.1.1.2.2.2.1⟩⟩⟩⟩, (Ta k_ hk_).1.1.1.2⟩) ?aF ?aO ?aB ?aS ?aL ?_
     (case aP => exact k80_mkM _ _ _ (⟨O, z⟩ : S80) (Kd.S_mono Wc (fun _ h_ => h_)))
     (case aB => exact (hs_ F.1))
     (case aF => exact (fun k_ hk => ⟨Kd.fresh' (Kd.S_lt (sp_ d.1)) k_ hk, Kd.freshB (g := m) (o := .cells #[.slice ha W.length ia, .int .i64 Z, .int .i64 aa, .string ba] 29 (0, 0)) (pb_ a.1) k_ hk, Kd.freshB (g := r) (o := .cells #[.int .i64 O, .slice D z.length E] 80 (0, 0)) (pb_ q.1) k_ hk, Kd.freshB (g := T) (o := .cells #[.int .i64 O, .slice D z.length E] 80 (0, 0)) (pb_ X.1) k_ hk, (fun g_ => Nat.lt_irrefl _ (Nat.lt_of_lt_of_le (Nat.lt_trans (HGp103.out k_ g_) (blk_lt (pb_ q.1))) hk))⟩))
     (case aO => exact (Kd.S_mono (sp_ ma.1) (fun k_ hk => ⟨⟨hk.2.1, ⟨hk.2.2.1, ⟨hk.2.2.2.1, ⟨hk.2.2.2.2.1, hk.2.2.2.2.2.1⟩⟩⟩⟩, fun e_ => (fun ez_ => hk.2.2.2.2.2.2 (Ta _ ez_).1.1.1.1.1.2.1) e_⟩)))
     (case aS => exact (below_size (hs_ F.1)))
     (case aL => have := Md.1; omega)
     intro wd Gi ho hb hg hat
     rw [← Nd.1] at ho
     replace d := M_ (Kd.S_after (ok := (fun k_ => some k_ ≠ (.slice D z.length E : Value).ownBlock ∧ k_ ≠ m ∧ k_ ≠ r ∧ k_ ≠ T ∧ Q ≤ k_ ∧ GXp103 k_ ∧ k_ < y ∧ k_ < r ∧ k_ < U)) (Kd.S_mono (sp_ d.1) (fun _ hk => ⟨⟨hk.1, ⟨hk.2.2.1, ⟨hk.2.2.2.1, ⟨hk.2.2.2.2.1, ⟨hk.2.2.2.2.2.1, ⟨hk.2.2.2.2.2.2.1, ⟨hk.2.2.2.2.2.2.2.1, ⟨hk.2.2.2.2.2.2.2.2.1, hk.2.2.2.2.2.2.2.2.2⟩⟩⟩⟩⟩⟩⟩⟩, hk.2.1⟩)) hg hat)
     replace b := bg_ b hg ma
     replace a := bg_ a hg ma
     replace l := bg_ l hg ma
     replace c := bg_ c hg ma
     replace q := M_ (blk_grown (bq_ q.1) hg (Kd.S_away ma.1 (fun _ hk => hk.2.2.2.1)))
     replace X := M_ (blk_grown (bq_ X.1) hg (Kd.S_away ma.1 (fun _ hk => hk.2.2.2.2.1)))
     replace F := M_ (hb)
     have jb := M_ (ho)
     clear ma B
     clear ho hb hg hat
     refine ho_ hK (f3_ c.1 (e2_ q.1)) (fun A => ?_)
     refine o1_ 13 (b_ 14 2) ja (fun K hK => ?_)
     refine Kd.S_append_rest_step k80 (w0 := w) w.heap.size (by rfl) (.tmp 73) (.tmp 77) 24 80 (.agg #[(.int .i64 0), (.slice none 0 0)]) 32 rfl Tryz.underlying24 info80 rfl (by decide) (by omega) wd wa s L s.length M ((V : Int).toNat) cp103b (fun k_ => k_ ≠ m ∧ k_ ≠ r ∧ k_ ≠ T) (fun k_ => some k_ ≠ (wd : Value).ownBlock ∧ k_ ≠ m ∧ k_ ≠ r ∧ k_ ≠ T ∧ Q ≤ k_ ∧ GXp103 k_ ∧ k_ < y ∧ k_ < r ∧ k_ < U) rfl KLp103.out (by rw [show (if M = (V : Int).toNat then L else (L : Option Addr).map (·.add ((V : Int).toNat * (k80).sz))) = Ap103b from KAp103.out.symm, ← Pb.1]; rfl) ?aR (fun k_ hk ho_ => ⟨⟨hk.2.1, ⟨hk.2.2.1, hk.2.2.2.1⟩⟩, hk.1⟩) ?aF ?aO ?aB ?aS ?aL ?_
     (case aR => exact (Kd.S_mono (d.1) (fun k_ hk => ⟨hk.2, ⟨hk.1.2.1, ⟨hk.1.2.2.1, ⟨hk.1.2.2.2.1, ⟨hk.1.2.2.2.2.1, ⟨hk.1.2.2.2.2.2.1, ⟨hk.1.2.2.2.2.2.2.1, ⟨hk.1.2.2.2.2.2.2.2.1, hk.1.2.2.2.2.2.2.2.2⟩⟩⟩⟩⟩⟩⟩⟩)))
     (case aB => exact (hs_ F.1))
     (case aF => exact (fun k_ hk => ⟨Kd.freshB (g := m) (o := .cells #[.slice ha W.length ia, .int .i64 Z, .int .i64 aa, .string ba] 29 (0, 0)) (pb_ a.1) k_ hk, Kd.freshB (g := r) (o := .cells #[.int .i64 O, .slice D z.length E] 80 (0, 0)) (pb_ q.1) k_ hk, Kd.freshB (g := T) (o := .cells #[.int .i64 O, .slice D z.length E] 80 (0, 0)) (pb_ X.1) k_ hk⟩))
     (case aO => exact (Kd.S_mono (sp_ jb.1) (fun k_ hk => ⟨⟨hk.2.1, ⟨hk.2.2.1, hk.2.2.2.1⟩⟩, fun e_ => hk.2.2.2.2 e_.1.2.2.2.2.2.1⟩)))
     (case aS => exact (below_size (hs_ F.1)))
     (case aL => have := Od.1; rw [Pb.1] at this; omega)
     intro Hi Ke ho hb hg hat
     rw [← Pb.1] at ho
     rw [← Pd.1] at ho
     replace b := bg_ b hg jb
     replace a := bg_ a hg jb
     replace l := bg_ l hg jb
     replace c := bg_ c hg jb
     replace q := M_ (blk_grown (bq_ q.1) hg (Kd.S_away jb.1 (fun _ hk => hk.2.2.1)))
     replace X := M_ (blk_grown (bq_ X.1) hg (Kd.S_away jb.1 (fun _ hk => hk.2.2.2.1)))
     replace F := M_ (hb)
     have Xc := M_ (ho)
     clear jb d
     clear ho hb hg hat
     obtain ⟨Yc, Zc, ad⟩ := Kd.S_slice Xc.1
     (first | subst ad | (obtain ⟨rfl, rfl⟩ := si_ ad))
     refine ho_ hK (f3_ c.1 (e2_ q.1)) (fun A => ?_)
     refine p_ ja ?_
     refine l1_ 15 (b_ 16 0) ja (fun K hK => ?_)
     have oi : Ke.cell? ⟨y, 2, none⟩ = some (.slice L s.length M) := bx_ c.1 2
     have Xe := blk_frozen c.1 2
     have Td := bb.1
     have Ud := lb.1
     have Vd := Bb.1
     have Wd := Hb.1
     have Xd := ta.1
     have Yd := Pa.1
     have Zd := cb.1
     have ae := Qa.1
     have be := qc.1
     have ce := na.1
     refine skip_ (w1 := ?_) (by rfl) rfl ?_ ?_
     rotate_left
     ·
      go_simp
      rfl
     refine hK.out _ _ ?_
     clear hK K
     refine done_ (done_of ja.1 (by kernel_rfl)) ?_
     have Ye := n2_ Pa
     have Ze := n2_ Qa
     have af := n2_ na
     obtain ⟨bf, cf, df, ef, ff, gf⟩ := bc3_ c.1
     have jf := n2_ Ab
     have kf := n2_ sa
     obtain ⟨lf, mf, nf, pf, qf, rf⟩ := bc3_ l.1
     try go_wp2
     refine bodyPost_ret (results_ct rfl _ _ ua 26 #[.int .i64 ea, .int .i64 (wrap64 (G + 1)), .slice Yc Tc.length Zc] (0, 0) _ rfl (bp_ l.1) Tryz.underlying26 rfl (by kernel_rfl)) rfl ?_
     exact ⟨_, rr_, Kd.S_mono (sf_ ua (Kd.S_far (p := ⟨y, 2, none⟩) (Kd.S_types (Kd.S_types Xc.1 c.1 (by decide)) l.1 (by decide)) (fun _ hk => hk.1.2) (.slice Yc Tc.length Zc)) (fun _ hk => hk.2)) (fun _ hk => trivial), hs_ F.1⟩
/-- A state of type 102 at block g of W; what its slices lead to came in by w0. -/
def IsS102 (w0 W : World) (g : Nat) (f0 : List Int) (f1 : Int) (f2 : Int) : Prop := ∃ A0 c0, W.heap[g]? = some (.cells #[.slice A0 f0.length c0, .int .i64 f1, .int .i64 f2] 102 (0, 0)) ∧ w0.heap.size ≤ g ∧ Kd.C (Kd.int .u8) w0 A0 f0.length f0
theorem IsS102.grown {w0 W : World} {g : Nat} {f0 : List Int} {f1 : Int} {f2 : Int} {W1 : World} {row : Option Nat} (h : IsS102 w0 W g f0 f1 f2) (hw : W.grownBy W1 row) (hne : some g ≠ row) : IsS102 w0 W1 g f0 f1 f2 := by
 obtain ⟨A0, c0, hb, hg, hr0⟩ := h
 exact ⟨A0, c0, blk_grown hb hw hne, hg, hr0⟩
theorem IsS102.kept {w0 W : World} {g : Nat} {f0 : List Int} {f1 : Int} {f2 : Int} {W1 : World} {S : Nat → Prop} (h : IsS102 w0 W g f0 f1 f2) (hk : Kept W W1 S) (hne : ¬ S g) : IsS102 w0 W1 g f0 f1 f2 := by
 obtain ⟨A0, c0, hb, hg, hr0⟩ := h
 exact ⟨A0, c0, blk_kept hb hk hne, hg, hr0⟩
theorem IsS102.below {w0 W : World} {g : Nat} {f0 : List Int} {f1 : Int} {f2 : Int} {W1 : World} (h : IsS102 w0 W g f0 f1 f2) (hw : Below W.heap.size W W1) : IsS102 w0 W1 g f0 f1 f2 := h.grown (grown_of_below hw none) (by simp)
theorem IsS102.alloc {w0 W : World} {g : Nat} {f0 : List Int} {f1 : Int} {f2 : Int} (h : IsS102 w0 W g f0 f1 f2) (o : Obj) : IsS102 w0 (W.alloc o) g f0 f1 f2 := h.below (ba_ (Below.refl _ _) o)
theorem IsS102.drewN {w0 W : World} {g : Nat} {f0 : List Int} {f1 : Int} {f2 : Int} (h : IsS102 w0 W g f0 f1 f2) (m : Nat) : IsS102 w0 (W.drewN m) g f0 f1 f2 := h
theorem IsS102.drew {w0 W : World} {g : Nat} {f0 : List Int} {f1 : Int} {f2 : Int} (h : IsS102 w0 W g f0 f1 f2) : IsS102 w0 W.drew g f0 f1 f2 := h
theorem IsS102.at_ {w0 W : World} {g : Nat} {f0 : List Int} {f1 : Int} {f2 : Int} {w' : World} {m : Nat} (hq : W.drewN m = w') (h : IsS102 w0 W g f0 f1 f2) : IsS102 w0 w' g f0 f1 f2 := by subst hq; exact IsS102.drewN h m
theorem IsS102.apart {w0 W : World} {g : Nat} {f0 : List Int} {f1 : Int} {f2 : Int} {α : Type} {d : Kd α} {e : Nat} {base : Nat} {ok : Nat → Prop} {v : Value} {xs : List α} (h : IsS102 w0 W g f0 f1 f2) (ho : d.R e W base ok v xs) (ht : ∀ q, q ∈ e :: d.E → q ≠ 102) : d.R e W base (fun k => ok k ∧ k ≠ g) v xs := by
 obtain ⟨A0, c0, hb, hg, hr0⟩ := h
 exact Kd.R_types ho hb ht
theorem IsS102.own_ne {w0 W : World} {g : Nat} {f0 : List Int} {f1 : Int} {f2 : Int} {α : Type} {d : Kd α} {e : Nat} {base : Nat} {ok : Nat → Prop} {v : Value} {xs : List α} (h : IsS102 w0 W g f0 f1 f2) (ho : d.R e W base ok v xs) (ht : e ≠ 102) : some g ≠ v.ownBlock := by
 obtain ⟨A0, c0, hb, hg, hr0⟩ := h
 exact Kd.R_ne ho hb ht
theorem IsS102.apartS {w0 W : World} {g : Nat} {f0 : List Int} {f1 : Int} {f2 : Int} {α : Type} {d : Kd α} {e : Nat} {base : Nat} {ok : Nat → Prop} {v : Value} {xs : List α} (h : IsS102 w0 W g f0 f1 f2) (ho : d.S e W base ok v xs) (ht : ∀ q, q ∈ e :: d.E → q ≠ 102) : d.S e W base (fun k => ok k ∧ k ≠ g) v xs := by
 obtain ⟨A0, c0, hb, hg, hr0⟩ := h
 exact Kd.S_types ho hb ht
theorem IsS102.own_neS {w0 W : World} {g : Nat} {f0 : List Int} {f1 : Int} {f2 : Int} {α : Type} {d : Kd α} {e : Nat} {base : Nat} {ok : Nat → Prop} {v : Value} {xs : List α} (h : IsS102 w0 W g f0 f1 f2) (ho : d.S e W base ok v xs) (ht : e ≠ 102) : some g ≠ v.ownBlock := by
 obtain ⟨A0, c0, hb, hg, hr0⟩ := h
 exact Kd.S_ne ho hb ht
theorem IsS102.lt {w0 W : World} {g : Nat} {f0 : List Int} {f1 : Int} {f2 : Int} (h : IsS102 w0 W g f0 f1 f2) : g < W.heap.size := by
 obtain ⟨A0, c0, hb, hg, hr0⟩ := h
 exact blk_lt hb
theorem IsS102.ge {w0 W : World} {g : Nat} {f0 : List Int} {f1 : Int} {f2 : Int} (h : IsS102 w0 W g f0 f1 f2) : w0.heap.size ≤ g := by
 obtain ⟨A0, c0, hb, hg, hr0⟩ := h
 exact hg
theorem IsS102.ne_blk {w0 W : World} {g : Nat} {f0 : List Int} {f1 : Int} {f2 : Int} {a : Nat} {cs : Array Value} {t : TypeId} {fr : Nat × Nat} (h : IsS102 w0 W g f0 f1 f2) (hb2 : W.heap[a]? = some (.cells cs t fr)) (ht : t ≠ 102) : g ≠ a := by
 obtain ⟨A0, c0, hb, hg, hr0⟩ := h
 rintro rfl
 rw [hb] at hb2
 injection hb2 with hb2
 injection hb2 with _ ht2
 exact ht ht2.symm
theorem IsS102.far {w0 W : World} {g : Nat} {f0 : List Int} {f1 : Int} {f2 : Int} {p : Addr} (h : IsS102 w0 W g f0 f1 f2) (hne : g ≠ p.block) (u : Value) : IsS102 w0 (W.setCell p u) g f0 f1 f2 := by
 obtain ⟨A0, c0, hb, hg, hr0⟩ := h
 exact ⟨A0, c0, blk_far hb hne u, hg, hr0⟩
theorem cellS102_0 {W : World} {g : Nat} {A0 : Option Addr} {c0 : Nat} {f0 : List Int} {f1 : Int} {f2 : Int} (h : W.heap[g]? = some (.cells #[.slice A0 f0.length c0, .int .i64 f1, .int .i64 f2] 102 (0, 0))) : W.cell? ⟨g, 0, none⟩ = some (.slice A0 f0.length c0) := (blk_cell h 0).trans rfl
theorem cellS102_1 {W : World} {g : Nat} {A0 : Option Addr} {c0 : Nat} {f0 : List Int} {f1 : Int} {f2 : Int} (h : W.heap[g]? = some (.cells #[.slice A0 f0.length c0, .int .i64 f1, .int .i64 f2] 102 (0, 0))) : W.cell? ⟨g, 1, none⟩ = some (.int .i64 f1) := (blk_cell h 1).trans rfl
theorem IsS102.set_1 {w0 W : World} {g : Nat} {f0 : List Int} {f1 : Int} {f2 : Int} (h : IsS102 w0 W g f0 f1 f2) (x : Int) : IsS102 w0 (W.setCell ⟨g, 1, none⟩ (.int .i64 x)) g f0 x f2 := by
 obtain ⟨A0, c0, hb, hg, hr0⟩ := h
 exact ⟨A0, c0, by simpa using blk_set hb 1 (.int .i64 x), hg, hr0⟩
theorem cellS102_2 {W : World} {g : Nat} {A0 : Option Addr} {c0 : Nat} {f0 : List Int} {f1 : Int} {f2 : Int} (h : W.heap[g]? = some (.cells #[.slice A0 f0.length c0, .int .i64 f1, .int .i64 f2] 102 (0, 0))) : W.cell? ⟨g, 2, none⟩ = some (.int .i64 f2) := (blk_cell h 2).trans rfl
theorem IsS102.set_2 {w0 W : World} {g : Nat} {f0 : List Int} {f1 : Int} {f2 : Int} (h : IsS102 w0 W g f0 f1 f2) (x : Int) : IsS102 w0 (W.setCell ⟨g, 2, none⟩ (.int .i64 x)) g f0 f1 x := by
 obtain ⟨A0, c0, hb, hg, hr0⟩ := h
 exact ⟨A0, c0, by simpa using blk_set hb 2 (.int .i64 x), hg, hr0⟩
theorem IsS102.new (w0 W : World) (A0 : Option Addr) (c0 : Nat) (f0 : List Int) (f1 : Int) (f2 : Int) (hB : Below w0.heap.size w0 W) (hr0 : Kd.C (Kd.int .u8) w0 A0 f0.length f0) : IsS102 w0 (W.alloc (.cells #[.slice A0 f0.length c0, .int .i64 f1, .int .i64 f2] 102)) W.heap.size f0 f1 f2 := ⟨A0, c0, by simpa using heap_alloc_new W _, hB.size, hr0⟩
theorem IsS102.pk_ {w0 w W : World} {g : Nat} {f0 : List Int} {f1 : Int} {f2 : Int} [hp : Bq_ w W g] (h : IsS102 w0 w g f0 f1 f2) : IsS102 w0 W g f0 f1 f2 := by
  obtain ⟨A0, c0, h1, h2⟩ := h
  exact ⟨A0, c0, hp.go _ h1, h2⟩
theorem IsS102.bk_ {w0 w W w1 : World} {g : Nat} {f0 : List Int} {f1 : Int} {f2 : Int} [hp : Bq_ w W g] (h : Aside0 (IsS102 w0 w g f0 f1 f2)) (hb : Below W.heap.size W w1) : Aside0 (IsS102 w0 w1 g f0 f1 f2) := ⟨IsS102.below (IsS102.pk_ h.out) hb⟩
theorem IsS102.nl_ {w0 w W : World} {g x : Nat} {f0 : List Int} {f1 : Int} {f2 : Int} [hp : Bq_ w W g] (h : Aside0 (IsS102 w0 w g f0 f1 f2)) (hg : x = W.heap.size) : Ne_ g x := ⟨by rw [hg]; exact Nat.ne_of_lt (IsS102.lt (IsS102.pk_ h.out))⟩
theorem IsS102.ng_ {w0 w W : World} {g x : Nat} {f0 : List Int} {f1 : Int} {f2 : Int} [hp : Bq_ w W g] (h : Aside0 (IsS102 w0 w g f0 f1 f2)) (hg : x = W.heap.size) : Ne_ x g := ⟨by rw [hg]; exact Nat.ne_of_gt (IsS102.lt (IsS102.pk_ h.out))⟩
theorem IsS102.rk_ {w0 w W w1 : World} {g : Nat} {f0 : List Int} {f1 : Int} {f2 : Int} {α : Type} {d : Kd α} {e base : Nat} {ok : Nat → Prop} {v : Value} {xs : List α} [hp : Bq_ w W g] [hq : Pk_ W w] (h : Aside0 (IsS102 w0 w g f0 f1 f2)) (ho : Aside0 (Kd.R d e w base ok v xs)) (hk : KeepBut W w1 g none) (ht : ∀ q, q ∈ e :: d.E → q ≠ 102 := by decide) : Aside0 (Kd.R d e w1 base ok v xs) := ⟨Kd.R_mono (Kd.R_keep (IsS102.apart (IsS102.pk_ h.out) (rp_ ho.out) ht) hk (fun _ h => h.2)) (fun _ h => h.1)⟩
theorem IsS102.sk_ {w0 w W w1 : World} {g : Nat} {f0 : List Int} {f1 : Int} {f2 : Int} {α : Type} {d : Kd α} {e base : Nat} {ok : Nat → Prop} {v : Value} {xs : List α} [hp : Bq_ w W g] [hq : Pk_ W w] (h : Aside0 (IsS102 w0 w g f0 f1 f2)) (ho : Aside0 (Kd.S d e w base ok v xs)) (hk : KeepBut W w1 g none) (ht : ∀ q, q ∈ e :: d.E → q ≠ 102 := by decide) : Aside0 (Kd.S d e w1 base ok v xs) := ⟨Kd.S_mono (Kd.S_keep (IsS102.apartS (IsS102.pk_ h.out) (sp_ ho.out) ht) hk (fun _ h => h.2)) (fun _ h => h.1)⟩

def spec_l1New.l0 : Nat → List Int → Int → Int → Option (List Int × Int × Int)
 | 0, _, _, _ => none
 | k + 1, a, c, b => if b < (a.length : Int) then (if b < 4000 then (if 0 ≤ b then (spec_l1New.l0 k a (Go.bits .and .i64 (wrap64 ((wrap64 ((wrap64 (c * 137)) + (wrap64 (rd a b)))) + 11)) 1073741823) (wrap64 (b + 1))) else (none)) else (some (a, 0, c))) else (some (a, 0, c))
def spec_l1New.f (k : Nat) (l0 : List Int) : Option (List Int × Int × Int) := spec_l1New.l0 k l0 (wrap64 (140873 + (l0.length : Int))) 0
theorem spec_l1New.calls (k : Nat) (G : Option Addr) (I : Nat) (l0 : List Int) (J : List Int) (K : Int) (L : Int) (o w : World) (hB : Below o.heap.size o w) (v : Kd.C (Kd.int .u8) o G l0.length l0) (x : l0.length ≤ I) (h : spec_l1New.f k l0 = some (J, K, L)) :
  Calls Tryz.prog 50 #[.slice G l0.length I] w fun e w' => ∃ g_ : Nat, e = .returned (.pointer (some ⟨g_, 0, none⟩)) ∧ IsS102 o w' g_ J K L ∧ Below o.heap.size o w' ∧ Below w.heap.size w w' := by
 have hu102 := Tryz.underlying102
 have q := M_ v
 have P := M_ x
 clear v x
 have a := M_ (Below.refl w.heap.size w)
 have y := M_ hB.size
 have p := M_ hB
 clear hB
 unfold spec_l1New.f at h
 have H := h; clear h
 have H' := M_ H
 clear H
 go_enter Tryz.func50, Tryz.ntmps50
 go_wp2
 go_loopg [3, 4] k (fun kq Q R w' => ∃ (c : Int) (b : Int), Q = .int .i64 c ∧ R = .int .i64 b ∧ Aside0 (spec_l1New.l0 kq l0 c b = some (J, K, L)) ∧ Aside0 (kq ≤ k) ∧ Aside0 (Below w.heap.size w w') ∧ Aside0 (Below o.heap.size o w'))
 case atStart => exact ⟨(wrap64 (140873 + (l0.length : Int))), (0), rs_, rs_, H', ⟨Nat.le_refl _⟩, ⟨by repeat (first | (with_reducible first | exact a.1 | apply ba_ | apply bn_ | apply bd_) | exact a.1)⟩, ⟨hs_ p.1⟩⟩
 case round =>
  clear H'
  obtain ⟨c, b, rfl, rfl, M, z, a, p⟩ := hrel
  cases gk with
  | zero => exact absurd M.1 (by simp [spec_l1New.l0])
  | succ S =>
   have H := M.1
   clear M
   simp only [spec_l1New.l0] at H
   replace H := ie_ H; rcases H with ⟨A, H⟩ | ⟨A, H⟩
   ·
    have B := decide_eq_true A
    clear A
    replace H := ie_ H; rcases H with ⟨D, H⟩ | ⟨D, H⟩
    ·
     have E := decide_eq_true D
     clear D
     replace H := id_ H; obtain ⟨O, H⟩ := H
     have H' := M_ H
     clear H
     obtain ⟨g, i⟩ : 0 ≤ (b : Int) ∧ b < (l0.length : Int) := pq_
     obtain ⟨N, F, d⟩ := Kd.at_int q.1 b g i
     cases F
     replace d := pw_cell_below p.1 d
     replace g := eq_true g; replace i := eq_true i
     go_wp2
     go_roundg S
     case measure => have := z.1; omega
     case rel => exact ⟨(Go.bits .and .i64 (wrap64 ((wrap64 ((wrap64 (c * 137)) + (wrap64 (rd l0 b)))) + 11)) 1073741823), (wrap64 (b + 1)), rs_, rs_, H', ⟨by have := z.1; omega⟩, ⟨by repeat (first | (with_reducible first | exact a.1 | apply ba_ | apply bn_ | apply bd_) | exact a.1)⟩, ⟨hs_ p.1⟩⟩
    have E : decide (b < 4000) = false := decide_eq_false D
    clear D
    simp only [Option.some.injEq, Prod.mk.injEq] at H
    obtain ⟨rfl, rfl, rfl⟩ := H
    go_wp2_with (first | ((with_reducible refine gd_ 31 rfl ?_); refine bV_ 31 #[.slice G l0.length I, .int .i64 0, .int .i64 c] 102 ?_; intro j hg T r hb; replace p := st_ p hb; have l := Ge_.mk ((by rw [hg]; exact (below_size (by repeat (first | (with_reducible first | exact a.1 | apply ba_ | apply bn_ | apply bd_) | exact a.1))) : w.heap.size ≤ j)); replace a := M_ (below_step a.1 hb); have s := gt_ y l; clear hb hg))
    go_ret
    exact ⟨_, rfl, (show IsS102 o _ j l0 0 c from ⟨_, _, by (with_reducible repeat (first | refine kn_ ?_ _ | refine kd_ ?_ | refine ka_ ?_ _)); exact r.1, s.1, q.1⟩), hs_ p.1, by repeat (first | (with_reducible first | exact a.1 | apply ba_ | apply bn_ | apply bd_ | apply bs_ l) | exact a.1)⟩
   have B : decide (b < (l0.length : Int)) = false := decide_eq_false A
   clear A
   simp only [Option.some.injEq, Prod.mk.injEq] at H
   obtain ⟨rfl, rfl, rfl⟩ := H
   go_wp2_with (first | ((with_reducible refine gd_ 31 rfl ?_); refine bV_ 31 #[.slice G l0.length I, .int .i64 0, .int .i64 c] 102 ?_; intro m hg U t hb; replace p := st_ p hb; have n := Ge_.mk ((by rw [hg]; exact (below_size (by repeat (first | (with_reducible first | exact a.1 | apply ba_ | apply bn_ | apply bd_) | exact a.1))) : w.heap.size ≤ m)); replace a := M_ (below_step a.1 hb); have u := gt_ y n; clear hb hg))
   go_ret
   exact ⟨_, rfl, (show IsS102 o _ m l0 0 c from ⟨_, _, by (with_reducible repeat (first | refine kn_ ?_ _ | refine kd_ ?_ | refine ka_ ?_ _)); exact t.1, u.1, q.1⟩), hs_ p.1, by repeat (first | (with_reducible first | exact a.1 | apply ba_ | apply bn_ | apply bd_ | apply bs_ n) | exact a.1)⟩
def spec_l1Byte.f (c : List Int) (b : Int) (a : Int) : Option (Int × Int × Int) := if b < (c.length : Int) then (if 0 ≤ b then (some (Go.bits .and .i64 (wrap64 ((Go.bits .and .i64 (Go.bits .xor .i64 ((wrap64 ((wrap64 (a * 6364136223846793005)) + 1442695040888963407)) / 8589934592) ((wrap64 ((wrap64 (a * 6364136223846793005)) + 1442695040888963407)) / 140737488355328)) 255) + (wrap64 (rd c b)))) 255, wrap64 (b + 1), wrap64 ((wrap64 (a * 6364136223846793005)) + 1442695040888963407))) else (none)) else (some (Go.bits .and .i64 (Go.bits .xor .i64 ((wrap64 ((wrap64 (a * 6364136223846793005)) + 1442695040888963407)) / 8589934592) ((wrap64 ((wrap64 (a * 6364136223846793005)) + 1442695040888963407)) / 140737488355328)) 255, b, wrap64 ((wrap64 (a * 6364136223846793005)) + 1442695040888963407)))
theorem spec_l1Byte.calls (g : Nat) (d : List Int) (b : Int) (i : Int) (t : Int) (u : Int) (v : Int) (m w : World) (hI : IsS102 m w g d b i) (hB : Below m.heap.size m w) (h : spec_l1Byte.f d b i = some (t, u, v)) :
  Calls Tryz.prog 104 #[.pointer (some ⟨g, 0, none⟩)] w fun e w' => e = .returned (.int .i64 t) ∧ IsS102 m w' g d u v ∧ Below m.heap.size m w' ∧ KeepBut w w' g none := by
 have c := M_ hI
 have HK := M_ (KeepBut.refl w g none)
 have HL := M_ hB.size
 clear hI
 have J := M_ hB.size
 have n := M_ hB
 clear hB
 unfold spec_l1Byte.f at h
 have H := h; clear h
 replace H := ie_ H; rcases H with ⟨o, H⟩ | ⟨o, H⟩
 ·
  have q := decide_eq_true o
  clear o
  replace H := id_ H; obtain ⟨x, H⟩ := H
  simp only [Option.some.injEq, Prod.mk.injEq] at H
  obtain ⟨rfl, rfl, rfl⟩ := H
  obtain ⟨ASz4_0, cSz4_0, HGz4, hgz4, HSz4_0⟩ := c.1
  have y := cellS102_0 HGz4
  have z := cellS102_1 HGz4
  have A := cellS102_2 HGz4
  have B := blk_frozen HGz4 1
  have C := blk_frozen HGz4 2
  clear HGz4 hgz4
  obtain ⟨j, k⟩ : 0 ≤ (b : Int) ∧ b < (d.length : Int) := pq_
  obtain ⟨l, r, a⟩ := Kd.at_int HSz4_0 b j k
  cases r
  have hn137_0 : l.block ≠ g := Nat.ne_of_lt (Nat.lt_of_lt_of_le (by have := World.block_lt_of_cell? _ _ a; first | rwa [add_block] at this | exact this) (IsS102.ge c.1))
  replace a := pw_cell_below n.1 a
  replace a := (cell_far (p := ⟨g, 2, none⟩) (by first | (rw [add_block]; exact hn137_0) | (show (Addr.add _ _).block ≠ _; rw [add_block]; exact hn137_0) | exact hn137_0) (.int .i64 (wrap64 ((wrap64 (i * 6364136223846793005)) + 1442695040888963407)))).trans a
  (try have s := fun (n_ : Nat) => (show (((w.drewN n_).setCell ⟨g, 2, none⟩ (.int .i64 (wrap64 ((wrap64 (i * 6364136223846793005)) + 1442695040888963407))))).cell? _ = some _ from a))
  clear hn137_0
  replace j := eq_true j; replace k := eq_true k
  go_enter Tryz.func104, Tryz.ntmps104
  go_wp2
  repeat (go_quiet (fail); try go_wp2)
  go_ret
  exact an_ ⟨by repeat (first | (with_reducible first | exact c.1 | apply IsS102.alloc | apply IsS102.drewN | apply IsS102.drew | apply IsS102.set_1 | apply IsS102.set_2) | exact c.1), by repeat (first | (with_reducible first | exact n.1 | apply ba_ | apply bn_ | apply bd_ | refine below_set ?_ (IsS102.ge c.1)) | exact n.1), by repeat (first | (with_reducible first | exact HK.1 | apply KeepBut.set_ | apply keep_drewN | apply keep_drew | apply keep_alloc) | exact HK.1)⟩
 have q : decide (b < (d.length : Int)) = false := decide_eq_false o
 clear o
 simp only [Option.some.injEq, Prod.mk.injEq] at H
 obtain ⟨rfl, rfl, rfl⟩ := H
 obtain ⟨ASz5_0, cSz5_0, HGz5, hgz5, HSz5_0⟩ := c.1
 have D := cellS102_0 HGz5
 have E := cellS102_1 HGz5
 have F := cellS102_2 HGz5
 have G := blk_frozen HGz5 1
 have I := blk_frozen HGz5 2
 clear HGz5 hgz5
 go_enter Tryz.func104, Tryz.ntmps104
 go_wp2
 repeat (go_quiet (fail); try go_wp2)
 go_ret
 exact an_ ⟨by repeat (first | (with_reducible first | exact c.1 | apply IsS102.alloc | apply IsS102.drewN | apply IsS102.drew | apply IsS102.set_1 | apply IsS102.set_2) | exact c.1), by repeat (first | (with_reducible first | exact n.1 | apply ba_ | apply bn_ | apply bd_ | refine below_set ?_ (IsS102.ge c.1)) | exact n.1), by repeat (first | (with_reducible first | exact HK.1 | apply KeepBut.set_ | apply keep_drewN | apply keep_drew | apply keep_alloc) | exact HK.1)⟩
def spec_l1Below.f (e : List Int) (g : Int) (h : Int) (i : Int) : Option (Int × Int × Int) := if i ≤ 0 then (some (0, g, h)) else (if i ≤ 256 then ((spec_l1Byte.f e g h).bind fun a => (if i = 0 then (none) else (some (Int.tmod a.1 i, a.2.1, a.2.2)))) else ((spec_l1Byte.f e g h).bind fun b => ((spec_l1Byte.f e b.2.1 b.2.2).bind fun c => ((spec_l1Byte.f e c.2.1 c.2.2).bind fun d => (if i = 0 then (none) else (some (Int.tmod (wrap64 ((wrap64 ((wrap64 (b.1 * 65536)) + (wrap64 (c.1 * 256)))) + d.1)) i, d.2.1, d.2.2)))))))
theorem spec_l1Below.calls (g : Nat) (a : List Int) (c : Int) (d : Int) (k : Int) (G : Int) (I : Int) (J : Int) (j w : World) (hI : IsS102 j w g a c d) (hB : Below j.heap.size j w) (h : spec_l1Below.f a c d k = some (G, I, J)) :
  Calls Tryz.prog 69 #[.pointer (some ⟨g, 0, none⟩), .int .i64 k] w fun e w' => e = .returned (.int .i64 G) ∧ IsS102 j w' g a I J ∧ Below j.heap.size j w' ∧ KeepBut w w' g none := by
 have b := M_ hI
 have HK := M_ (KeepBut.refl w g none)
 have HL := M_ hB.size
 clear hI
 have N := M_ hB.size
 have i := M_ hB
 clear hB
 unfold spec_l1Below.f at h
 have H := h; clear h
 replace H := ie_ H; rcases H with ⟨p, H⟩ | ⟨p, H⟩
 ·
  have q := decide_eq_true p
  clear p
  simp only [Option.some.injEq, Prod.mk.injEq] at H
  obtain ⟨rfl, rfl, rfl⟩ := H
  go_enter Tryz.func69, Tryz.ntmps69
  go_wp2
  go_ret
  exact an_ ⟨IsS102.pk_ b.1, hs_ i.1, ku_ HK.1⟩
 have q : decide (k ≤ 0) = false := decide_eq_false p
 clear p
 replace H := ie_ H; rcases H with ⟨r, H⟩ | ⟨r, H⟩
 ·
  have s := decide_eq_true r
  clear r
  replace H := bi_ H; obtain ⟨⟨t, u, v⟩, O, H⟩ := H; (try dsimp only at H)
  replace H := io_ H; obtain ⟨K, H⟩ := H
  have L : (k == 0) = false := beq_eq_false_iff_ne.mpr K
  have M : (k != 0) = true := bne_iff_ne.mpr K
  simp only [Option.some.injEq, Prod.mk.injEq] at H
  obtain ⟨rfl, rfl, rfl⟩ := H
  go_enter Tryz.func69, Tryz.ntmps69
  go_wp2_with (first | ((with_reducible refine gate_callee (f := 104) rfl ?_); refine gl_ (some 13) Tryz.func104 #[.pointer (some ⟨g, 0, none⟩)] ?_; (with_reducible refine (spec_l1Byte.calls g a c d t u v j _ ?_ ?_ O.1).mono ?_); exact IsS102.pk_ b.1; exact hs_ i.1; rintro e U ⟨rfl, hi, hb, hk⟩; refine ⟨_, rfl, ?_⟩; replace HK := kh_ HK hk; replace i := M_ (hb); replace b := M_ (hi); (try clear hb hk hi)))
  go_ret
  exact an_ ⟨IsS102.pk_ b.1, hs_ i.1, ku_ HK.1⟩
 have s : decide (k ≤ 256) = false := decide_eq_false r
 clear r
 replace H := bi_ H; obtain ⟨⟨x, l, m⟩, P, H⟩ := H; (try dsimp only at H)
 replace H := bi_ H; obtain ⟨⟨y, n, o⟩, Q, H⟩ := H; (try dsimp only at H)
 replace H := bi_ H; obtain ⟨⟨z, A, B⟩, D, H⟩ := H; (try dsimp only at H)
 replace H := io_ H; obtain ⟨C, H⟩ := H
 have E : (k == 0) = false := beq_eq_false_iff_ne.mpr C
 have F : (k != 0) = true := bne_iff_ne.mpr C
 simp only [Option.some.injEq, Prod.mk.injEq] at H
 obtain ⟨rfl, rfl, rfl⟩ := H
 go_enter Tryz.func69, Tryz.ntmps69
 go_wp2_with (first | ((with_reducible refine gate_callee (f := 104) rfl ?_); refine gl_ (some 17) Tryz.func104 #[.pointer (some ⟨g, 0, none⟩)] ?_; (with_reducible refine (spec_l1Byte.calls g a c d x l m j _ ?_ ?_ P.1).mono ?_); exact IsS102.pk_ b.1; exact hs_ i.1; rintro e R ⟨rfl, hi, hb, hk⟩; refine ⟨_, rfl, ?_⟩; replace HK := kh_ HK hk; replace i := M_ (hb); replace b := M_ (hi); (try clear hb hk hi)) | ((with_reducible refine gate_callee (f := 104) rfl ?_); refine gl_ (some 19) Tryz.func104 #[.pointer (some ⟨g, 0, none⟩)] ?_; (with_reducible refine (spec_l1Byte.calls g a l m y n o j _ ?_ ?_ Q.1).mono ?_); exact IsS102.pk_ b.1; exact hs_ i.1; rintro e S ⟨rfl, hi, hb, hk⟩; refine ⟨_, rfl, ?_⟩; replace HK := kh_ HK hk; replace i := M_ (hb); replace b := M_ (hi); (try clear hb hk hi)) | ((with_reducible refine gate_callee (f := 104) rfl ?_); refine gl_ (some 21) Tryz.func104 #[.pointer (some ⟨g, 0, none⟩)] ?_; (with_reducible refine (spec_l1Byte.calls g a n o z A B j _ ?_ ?_ D.1).mono ?_); exact IsS102.pk_ b.1; exact hs_ i.1; rintro e T ⟨rfl, hi, hb, hk⟩; refine ⟨_, rfl, ?_⟩; replace HK := kh_ HK hk; replace i := M_ (hb); replace b := M_ (hi); (try clear hb hk hi)))
 go_ret
 exact an_ ⟨IsS102.pk_ b.1, hs_ i.1, ku_ HK.1⟩
def spec_l1Int.f (b : List Int) (c : Int) (d : Int) (e : List Int) : Option (Int × Int × Int) := (spec_l1Below.f b c d (e.length : Int)).bind fun a => (if 0 ≤ a.1 then (if a.1 < (e.length : Int) then (some (rd e a.1, a.2.1, a.2.2)) else (none)) else (none))
theorem spec_l1Int.calls (g : Nat) (b : List Int) (d : Int) (i : Int) (u : Option Addr) (y : Nat) (l : List Int) (z : Int) (A : Int) (B : Int) (m w : World) (hI : IsS102 m w g b d i) (hB : Below m.heap.size m w) (p : Kd.C (Kd.int .i64) w u l.length l) (q : l.length ≤ y) (hf1 : ∀ ad, u = some ad → 0 < l.length → ad.block ≠ g) (h : spec_l1Int.f b d i l = some (z, A, B)) :
  Calls Tryz.prog 66 #[.pointer (some ⟨g, 0, none⟩), .slice u l.length y] w fun e w' => e = .returned (.int .i64 z) ∧ IsS102 m w' g b A B ∧ Below m.heap.size m w' ∧ KeepBut w w' g none := by
 have v := M_ p
 have F := M_ q
 clear p q
 have n := M_ hI
 have HK := M_ (KeepBut.refl w g none)
 have HL := M_ hB.size
 clear hI
 have G := M_ hB.size
 have x := M_ hB
 clear hB
 unfold spec_l1Int.f at h
 have H := h; clear h
 replace H := bi_ H; obtain ⟨⟨c, r, s⟩, I, H⟩ := H; (try dsimp only at H)
 replace H := i2_ H; obtain ⟨D, E, H⟩ := H
 simp only [Option.some.injEq, Prod.mk.injEq] at H
 obtain ⟨rfl, rfl, rfl⟩ := H
 go_enter Tryz.func66, Tryz.ntmps66
 go_wp2_with (first | ((with_reducible refine gate_callee (f := 69) rfl ?_); refine gl_ (some 9) Tryz.func69 #[.pointer (some ⟨g, 0, none⟩), .int .i64 (l.length : Int)] ?_; (with_reducible refine (spec_l1Below.calls g b d i (l.length : Int) c r s m _ ?_ ?_ I.1).mono ?_); exact IsS102.pk_ n.1; exact hs_ x.1; rintro e J ⟨rfl, hi, hb, hk⟩; refine ⟨_, rfl, ?_⟩; replace HK := kh_ HK hk; replace x := M_ (hb); replace n := M_ (hi); (try clear hb hk hi); have j : 0 ≤ (c : Int) := of_decide_eq_true (by with_reducible assumption); have k : c < (l.length : Int) := of_decide_eq_true (by with_reducible assumption); obtain ⟨o, t, a⟩ := Kd.at_int v.1 c j k; cases t; replace a := keep_cell HK.1 a (by first | (rw [add_block]; exact hf1 _ rfl (by omega)) | exact hf1 _ rfl (by omega) | exact hf1 o rfl (by omega)); replace j := eq_true j; replace k := eq_true k))
 go_ret
 exact an_ ⟨IsS102.pk_ n.1, hs_ x.1, ku_ HK.1⟩
def spec_l1Once.f (b : List Int) (c : Int) (d : Int) (e : Int) : Option (Bool × Int × Int) := (spec_l1Below.f b c d e).bind fun a => (some ((a.1 == 0), a.2.1, a.2.2))
theorem spec_l1Once.calls (g : Nat) (a : List Int) (b : Int) (c : Int) (m : Int) (o : Bool) (p : Int) (q : Int) (d w : World) (hI : IsS102 d w g a b c) (hB : Below d.heap.size d w) (h : spec_l1Once.f a b c m = some (o, p, q)) :
  Calls Tryz.prog 70 #[.pointer (some ⟨g, 0, none⟩), .int .i64 m] w fun e w' => e = .returned (.bool o) ∧ IsS102 d w' g a p q ∧ Below d.heap.size d w' ∧ KeepBut w w' g none := by
 have i := M_ hI
 have HK := M_ (KeepBut.refl w g none)
 have HL := M_ hB.size
 clear hI
 have r := M_ hB.size
 have n := M_ hB
 clear hB
 unfold spec_l1Once.f at h
 have H := h; clear h
 replace H := bi_ H; obtain ⟨⟨j, k, l⟩, s, H⟩ := H; (try dsimp only at H)
 simp only [Option.some.injEq, Prod.mk.injEq] at H
 obtain ⟨rfl, rfl, rfl⟩ := H
 go_enter Tryz.func70, Tryz.ntmps70
 go_wp2_with (first | ((with_reducible refine gate_callee (f := 69) rfl ?_); refine gl_ (some 7) Tryz.func69 #[.pointer (some ⟨g, 0, none⟩), .int .i64 m] ?_; (with_reducible refine (spec_l1Below.calls g a b c m j k l d _ ?_ ?_ s.1).mono ?_); exact IsS102.pk_ i.1; exact hs_ n.1; rintro e t ⟨rfl, hi, hb, hk⟩; refine ⟨_, rfl, ?_⟩; replace HK := kh_ HK hk; replace n := M_ (hb); replace i := M_ (hi); (try clear hb hk hi)))
 go_ret
 exact an_ ⟨IsS102.pk_ i.1, hs_ n.1, ku_ HK.1⟩
def spec_l1Str.f (b : List Int) (c : Int) (d : Int) (e : List ByteArray) : Option (ByteArray × Int × Int) := (spec_l1Below.f b c d (e.length : Int)).bind fun a => (if 0 ≤ a.1 then (if a.1 < (e.length : Int) then (some (rdOf ByteArray.empty e a.1, a.2.1, a.2.2)) else (none)) else (none))
theorem spec_l1Str.calls (g : Nat) (b : List Int) (d : Int) (i : Int) (u : Option Addr) (y : Nat) (l : List ByteArray) (z : ByteArray) (A : Int) (B : Int) (m w : World) (hI : IsS102 m w g b d i) (hB : Below m.heap.size m w) (p : Kd.C Kd.string w u l.length l) (q : l.length ≤ y) (hf1 : ∀ ad, u = some ad → 0 < l.length → ad.block ≠ g) (h : spec_l1Str.f b d i l = some (z, A, B)) :
  Calls Tryz.prog 112 #[.pointer (some ⟨g, 0, none⟩), .slice u l.length y] w fun e w' => e = .returned (.string z) ∧ IsS102 m w' g b A B ∧ Below m.heap.size m w' ∧ KeepBut w w' g none := by
 have v := M_ p
 have F := M_ q
 clear p q
 have n := M_ hI
 have HK := M_ (KeepBut.refl w g none)
 have HL := M_ hB.size
 clear hI
 have G := M_ hB.size
 have x := M_ hB
 clear hB
 unfold spec_l1Str.f at h
 have H := h; clear h
 replace H := bi_ H; obtain ⟨⟨c, r, s⟩, I, H⟩ := H; (try dsimp only at H)
 replace H := i2_ H; obtain ⟨D, E, H⟩ := H
 simp only [Option.some.injEq, Prod.mk.injEq] at H
 obtain ⟨rfl, rfl, rfl⟩ := H
 go_enter Tryz.func112, Tryz.ntmps112
 go_wp2_with (first | ((with_reducible refine gate_callee (f := 69) rfl ?_); refine gl_ (some 9) Tryz.func69 #[.pointer (some ⟨g, 0, none⟩), .int .i64 (l.length : Int)] ?_; (with_reducible refine (spec_l1Below.calls g b d i (l.length : Int) c r s m _ ?_ ?_ I.1).mono ?_); exact IsS102.pk_ n.1; exact hs_ x.1; rintro e J ⟨rfl, hi, hb, hk⟩; refine ⟨_, rfl, ?_⟩; replace HK := kh_ HK hk; replace x := M_ (hb); replace n := M_ (hi); (try clear hb hk hi); have j : 0 ≤ (c : Int) := of_decide_eq_true (by with_reducible assumption); have k : c < (l.length : Int) := of_decide_eq_true (by with_reducible assumption); obtain ⟨o, t, a⟩ := Kd.at_string v.1 c j k; cases t; replace a := keep_cell HK.1 a (by first | (rw [add_block]; exact hf1 _ rfl (by omega)) | exact hf1 _ rfl (by omega) | exact hf1 o rfl (by omega)); replace j := eq_true j; replace k := eq_true k))
 go_ret
 exact an_ ⟨IsS102.pk_ n.1, hs_ x.1, ku_ HK.1⟩
end Go.Proofs.YtanfohlpkppeiaaGreat.Print
end
