import Derived.Test.YticgekgojgkbgaaProg
import Derived.Below
import Derived.Deep.Draws
import Derived.Deep.AppendLies
import Derived.Maps.AppendAt
import Derived.OwnWalk
import Derived.Laws.BytesArg
import Derived.Laws.MakeOwn
import Derived.Laws.OwnMore
import Derived.Deep.OwnRows
import Derived.Tactics
import Derived.Lib.ConvBytes
import Derived.Laws.Slices
import Derived.WalkKit
import Derived.KernelRfl
import Derived.RowKit3
import Derived.Deep.LoopGhost
import Derived.Deep.QuietTactic
import Derived.BigQuiet
import Derived.WideLaws
import Derived.Deep.DeepCutAuto
import Derived.Deep.CutBlock
import Derived.Deep.RegionHeld3
import Derived.Laws.Rows
import Derived.Lib.AppendStr
import Derived.ArgAppend
import Derived.Laws.IdiomCopy
import Derived.OrdersHeld
import Derived.Laws.BitsLemmas
import Derived.RowKit
import Derived.Test.YticgekgojgkbgaaMFnExactPutAlarm0
import Derived.ProofKit
import Derived.OpenShut
import Derived.ShutString
import Derived.ChangeOld
import Derived.SizedLaws
import Derived.Deep.Slices
import Derived.ChangeSame
import Derived.Carry
section
namespace Go.Proofs.Yticgekgojgkbgaa.Print
open Go.RowKit Go.Proofs.YticgekgojgkbgaaV.PrintWords Go.Proofs.YticgekgojgkbgaaV.PrintLast Go.Proofs.YticgekgojgkbgaaV.PrintMore
attribute [local go_sem] max2_int min2_int max_two min_two max_three min_three max_four min_four
set_option linter.unusedVariables false
set_option linter.unusedSimpArgs false
set_option maxHeartbeats 8000000
set_option maxRecDepth 100000
def errW : Option Int → Value
 | none => .nilIface
 | some c => .iface 0 (.int .i64 c)
theorem errW_none : errW none = .nilIface := rfl
theorem errW_some (c : Int) : errW (some c) = .iface 0 (.int .i64 c) := rfl

theorem info9 : (Try.prog.info? 9).map (fun i => (i.zero, i.size, i.bytes)) = some (some (.string ⟨#[]⟩), 1, 16) := by kernel_rfl
theorem info43 : (Try.prog.info? 43).map (fun i => (i.zero, i.size, i.bytes)) = some (some (.agg #[(.slice none 0 0), (.int .i64 0), (.int .i64 0), (.string ⟨#[]⟩)]), 4, 56) := by kernel_rfl
theorem info57 : (Try.prog.info? 57).map (fun i => (i.zero, i.size, i.bytes)) = some (some (.agg #[(.int .i64 0), (.int .i64 0), (.slice none 0 0)]), 3, 40) := by kernel_rfl
theorem info88 : (Try.prog.info? 88).map (fun i => (i.zero, i.size, i.bytes)) = some (some (.agg #[(.string ⟨#[]⟩), (.string ⟨#[]⟩)]), 2, 32) := by kernel_rfl
theorem info100 : (Try.prog.info? 100).map (fun i => (i.zero, i.size, i.bytes)) = some (some (.agg #[(.int .i64 0), (.slice none 0 0)]), 2, 32) := by kernel_rfl
def Kd.slS {α : Type} (e : Nat) (d : Kd α) : Kd (List α) where
 sz := 1
 E := e :: d.E
 K := (Kd.slice e d).K
 M := fun w base ok xs cs => ∃ v, cs = [v] ∧ Kd.S d e w base ok v xs
 K_len := (Kd.slice e d).K_len
 K_one := (Kd.slice e d).K_one
 K_below := (Kd.slice e d).K_below
 K_of_M := by
  rintro w base ok x cs ⟨v, rfl, h⟩
  obtain ⟨A, c, rfl, hl, hr⟩ := Kd.S_reads h
  exact ⟨A, c, rfl, hl, hr⟩
 M_mono := by
  rintro w base ok ok' x cs hok ⟨v, rfl, h⟩
  exact ⟨v, rfl, Kd.S_mono h hok⟩
 M_bound := by
  rintro w base ok x cs ⟨v, rfl, h⟩
  exact ⟨v, rfl, Kd.S_bound h⟩
 M_move := by
  rintro w w1 base ok x cs hm ⟨v, rfl, h⟩
  exact ⟨v, rfl, Kd.S_move h hm⟩
 M_lower := by
  rintro w base base' ok x cs hb ⟨v, rfl, h⟩
  exact ⟨v, rfl, Kd.S_lower h hb⟩
theorem List.zipIdx_append' {α : Type} (xs ys : List α) : (xs ++ ys).zipIdx = xs.zipIdx ++ ys.zipIdx xs.length := by rw [List.zipIdx_append]; simp
theorem Kd.S_lit2 {P : Program} {ops : Array Oper} {rest : List Oper} {o : Oper} {a : Act} {Q : Exit → Act → World → Prop} {α : Type} (d : Kd α) {W : World} (base e : Nat) (hgd : o.guard = none) {N : Tmp} (hd : o.dst = some N) {x : α} {cs : List Value} {ok okp : Nat → Prop} (okt : Nat → Prop)
  (hrun : (execOp a.eval o).run P W = .ok (.value (.slice (some ⟨W.heap.size, 0, none⟩) [x].length [x].length)) (W.alloc (.cells cs.toArray e)))
  (hp : d.M W base okp x cs) (hokt : ∀ k, okp k → okt k) (hok : ∀ k, okp k → ok k) (hfresh : ok W.heap.size) (hbase : base ≤ W.heap.size)
  (h : ∀ v1 w1, Kd.S d e w1 base (fun k => ok k ∧ (some k = v1.ownBlock ∨ okt k)) v1 [x] → Below W.heap.size W w1 → (∀ k, v1.ownBlock = some k → W.heap.size ≤ k) → wpList P ops Q rest (a.put o.dst v1) w1) :
  wpList P ops Q (o :: rest) a W := by
 refine Kd.S_lits (w0 := W) d base e hgd hd (xs := [x]) (inner := cs) (ok := fun k => ok k ∧ (k = W.heap.size ∨ (okt k ∧ k < W.heap.size))) (fun j k => j = 0 ∧ (okp k ∧ k < W.heap.size)) hrun (by rw [d.K_len (d.K_of_M hp)]; simp) ?_ (fun i j k hi hj => hi.1.trans hj.1.symm) (fun j k hk => ⟨hok k hk.2.1, .inr ⟨hokt k hk.2.1, hk.2.2⟩⟩) ⟨hfresh, .inl rfl⟩ (Below.refl _ _) hbase (by simp) ?_
 ·
  intro j y hj
  cases j with
  | zero =>
   obtain rfl : x = y := by simpa using hj
   rw [Nat.zero_mul, List.drop_zero, List.take_of_length_le (Nat.le_of_eq (d.K_len (d.K_of_M hp)))]; exact d.M_mono (fun k hk => ⟨rfl, hk.1, hk.2.2.1⟩) (d.M_bound hp)
  | succ j => simp at hj
 intro v1 w1 hs _ hg hn
 obtain ⟨b, hb, hl⟩ := hn
 have h3 : b = W.heap.size := by
  rcases ((Kd.S_R hs).1 b hb).2 with h2 | h2
  ·
   exact h2
  exact absurd h2.2 (by omega)
 exact h v1 w1 (Kd.S_mono hs (fun k hk => ⟨hk.1, hk.2.elim (fun he => .inl (by rw [hb, he, h3])) (fun he => .inr he.1)⟩)) (Below.grown (Below.refl _ _) hg (Nat.le_refl _) (fun k e => by cases e)) (fun k e => by rw [hb] at e; cases e; exact hl)
theorem box_stepL {P : Program} {ops : Array Oper} {o : Oper} {a : Act} {Q : Exit → Act → World → Prop} {Kc : Act → World → Prop} {W : World} (hw : Region.wanted o (yielded ops a.tmps) = true) {N : Tmp} (_hd : o.dst = some N) {cs : Array Value} {t : TypeId}
  (hrun : (execOp a.eval o).run P W = .ok (.value (.slice (some ⟨W.heap.size, 0, none⟩) 1 1)) (W.alloc (.cells cs t (0, 0))))
  (h : ∀ g, g = W.heap.size → ∀ w1, w1.heap[g]? = some (.cells cs t (0, 0)) → Below W.heap.size W w1 → Kc (a.put o.dst (.slice (some ⟨g, 0, none⟩) 1 1)) w1) : if Region.wanted o (yielded ops a.tmps) = true then Oper.wp P o a W Kc Q else Kc (a.put o.dst undef) W :=
 event_step hw hrun (h _ rfl _ (blk_new W _) (ba_ (Below.refl _ _) _))
theorem Kd.reads1 {α : Type} {d : Kd α} {e base : Nat} {W : World} {p : α} {n g : Nat} {cs : List Value} {okp : Nat → Prop} {f : Nat → Nat} (hbx : W.heap[g]? = some (.cells cs.toArray e (0, 0))) (hp : d.M W base okp p cs) (hf : ∀ k, okp k → f k = n) :
  ReadsRow (fun (q : α × Nat) cs => d.M W base (fun k => okp k ∧ f k = q.2) q.1 cs) d.sz W (some ⟨g, 0, none⟩) 1 [(p, n)] := by
 refine ⟨rfl, by decide, fun _ => ⟨_, rfl, fun j q hj => ?_⟩⟩
 cases j with
 | zero =>
  obtain rfl : (p, n) = q := by simpa using hj
  refine ⟨cs, d.K_len (d.K_of_M hp), d.M_mono (fun k hk => ⟨hk, hf k hk⟩) hp, fun i u hu => ?_⟩
  rw [Nat.zero_mul, Nat.zero_add]
  rw [show (⟨g, 0, none⟩ : Addr).add i = ⟨g, i, none⟩ by unfold Addr.add; split <;> simp_all, blk_cell hbx]
  simpa using hu
 | succ j => simp at hj
theorem Kd.S_append_box_step {P : Program} {ops : Array Oper} {o : Oper} {a : Act} {Q : Exit → Act → World → Prop} {Kc : Act → World → Prop} {α : Type} (d : Kd α) {w0 W : World} (base : Nat) (hw : Region.wanted o (yielded ops a.tmps) = true) (s x : Operand) (t e : TypeId) (z : Value) (bytes : Nat)
  (ho : o.op = .call { callee := .builtin .append, args := #[s, x], argTypes := #[t, t] })
  (ht : P.underlying t = some (.slice e)) (hinfo : (P.info? e).map (fun i => (i.zero, i.size, i.bytes)) = some (some z, d.sz, bytes)) (hz : z.cells.size = d.sz) (hs0 : 0 < d.sz) (hb0 : 0 < bytes)
  (v : Value) (xs : List α) (p : α) (cs : List Value) (ok okp : Nat → Prop) (g : Nat) (hbx : W.heap[g]? = some (.cells cs.toArray e (0, 0))) (hs : a.eval s = v) (hx : a.eval x = .slice (some ⟨g, 0, none⟩) 1 1) (hp : d.M W base okp p cs) (hokp : ∀ k, okp k → ok k ∧ some k ≠ v.ownBlock) (hfresh : ∀ k, W.heap.size ≤ k → ok k)
  (HO : Kd.S d e W base (fun k => ok k ∧ ¬ okp k) v xs) (HB : Below base w0 W) (hbase : base ≤ W.heap.size) (hl : (xs.length + 1) * bytes ≤ 140737488355328)
  (h : ∀ v1 w1, Kd.S d e w1 base ok v1 (xs ++ [p]) → Below base w0 w1 → W.grownBy w1 v.ownBlock → (v1.ownBlock = v.ownBlock ∨ ∃ b, v1.ownBlock = some b ∧ W.heap.size ≤ b) → Kc (a.put o.dst v1) w1) :
  if Region.wanted o (yielded ops a.tmps) = true then Oper.wp P o a W Kc Q else Kc (a.put o.dst undef) W := by
 obtain ⟨f, hf, hR⟩ := Kd.S_tag HO xs.length okp (fun _ hk h2 => h2.2 hk)
 refine Kd.R_append_rows_step (Kd.tag f d) base hw s x t e z bytes ho ht hinfo hz hs0 hb0 v xs.zipIdx [(p, xs.length)] (some ⟨g, 0, none⟩) 1 1 ok okp hs hx (Kd.R_mono hR (fun _ hk => hk.1)) (Kd.reads1 hbx hp hf) (fun _ _ h => h) hokp hfresh HB hbase (by rw [List.length_zipIdx]; exact hl) ?_
 intro v1 w1 hr hb hg hat
 rw [show xs.zipIdx ++ [(p, xs.length)] = (xs ++ [p]).zipIdx by rw [List.zipIdx_append']; rfl] at hr
 exact h v1 w1 ⟨f, hr⟩ hb hg hat
def Kd.opt {α : Type} (d : Kd α) : Kd (Option α) where
 sz := d.sz
 E := d.E
 K := fun w x cs => match x with | none => cs.length = d.sz ∧ ∀ u ∈ cs, u.oneCell' = true | some y => d.K w y cs
 M := fun w base ok x cs => match x with | none => cs.length = d.sz ∧ ∀ u ∈ cs, u.oneCell' = true | some y => d.M w base ok y cs
 K_len := by intro w x cs h; cases x with | none => exact h.1 | some y => exact d.K_len h
 K_one := by intro w x cs h; cases x with | none => exact h.2 | some y => exact d.K_one h
 K_below := by intro w w1 x cs hb h; cases x with | none => exact h | some y => exact d.K_below hb h
 K_of_M := by intro w base ok x cs h; cases x with | none => exact h | some y => exact d.K_of_M h
 M_mono := by intro w base ok ok' x cs hok h; cases x with | none => exact h | some y => exact d.M_mono hok h
 M_bound := by intro w base ok x cs h; cases x with | none => exact h | some y => exact d.M_bound h
 M_move := by intro w w1 base ok x cs hm h; cases x with | none => exact h | some y => exact d.M_move hm h
 M_lower := by intro w base base' ok x cs hb h; cases x with | none => exact h | some y => exact d.M_lower hb h
abbrev Kd.gap {α : Type} (m : Nat) (xs : List α) : List (Option α) := List.replicate m none ++ (xs.drop m).map some
theorem Kd.gap_length {α : Type} {m : Nat} {xs : List α} (hm : m ≤ xs.length) : (Kd.gap m xs).length = xs.length := by simp only [Kd.gap, List.length_append, List.length_replicate, List.length_map, List.length_drop]; omega
theorem Kd.gap_at {α : Type} {m j : Nat} {xs : List α} {p : Option α} (hj : (Kd.gap m xs)[j]? = some p) : (j < m ∧ p = none) ∨ ∃ y, m ≤ j ∧ xs[j]? = some y ∧ p = some y := by
 rcases Nat.lt_or_ge j m with h | h
 ·
  rw [Kd.gap, List.getElem?_append_left (by simpa using h), List.getElem?_replicate, if_pos h] at hj
  exact .inl ⟨h, (Option.some.inj hj).symm⟩
 rw [Kd.gap, List.getElem?_append_right (by simpa using h), List.length_replicate, List.getElem?_map, List.getElem?_drop, show m + (j - m) = j by omega] at hj
 obtain ⟨y, hy, rfl⟩ := Option.map_eq_some_iff.1 hj
 exact .inr ⟨y, h, hy, rfl⟩
theorem Kd.own_len {A : Option Addr} {n m c c' : Nat} : (Value.slice A n c).ownBlock = (Value.slice A m c').ownBlock := by cases A <;> rfl
theorem Kd.S_split {α : Type} {d : Kd α} {e base n c : Nat} {W : World} {ok : Nat → Prop} {A : Option Addr} {xs : List α} (h : Kd.S d e W base ok (.slice A n c) xs) (m : Nat) (hm : m ≤ xs.length) :
  ∃ G : Nat → Prop, Kd.S (Kd.opt d) e W base (fun k => ok k ∧ G k) (.slice A n c) (Kd.gap m xs) ∧ Kd.S d e W base (fun k => ok k ∧ (¬ G k ∨ some k = (Value.slice A m c).ownBlock)) (.slice A m c) (xs.take m) ∧ ∀ k, G k → ok k := by
 obtain ⟨f, h⟩ := h
 refine ⟨fun k => ok k ∧ (m ≤ f k ∨ some k = (Value.slice A n c).ownBlock), ⟨f, ?_⟩, ⟨f, ?_⟩, fun _ hk => hk.1⟩
 ·
  obtain ⟨h0, inner, ho, hr⟩ := h
  rw [List.length_zipIdx] at ho
  refine ⟨fun k hk => ⟨h0 k hk, h0 k hk, .inr hk.symm⟩, inner, ?_, ?_, ?_⟩
  ·
   rw [List.length_zipIdx, Kd.gap_length hm]; exact ho
  ·
   have := hr.1; rw [List.length_zipIdx] at this ⊢; rw [Kd.gap_length hm]; exact this
  intro j p hj
  rw [List.getElem?_zipIdx, Nat.zero_add] at hj
  obtain ⟨y, hy, rfl⟩ := Option.map_eq_some_iff.1 hj
  rcases Kd.gap_at hy with ⟨hlt, rfl⟩ | ⟨z, hge, hz, rfl⟩
  ·
   have hl : j < xs.length := by omega
   have h2 := d.K_of_M (hr.2 j (xs[j], j) (Kd.zip_at (List.getElem?_eq_getElem hl)))
   exact ⟨d.K_len h2, d.K_one h2⟩
  exact d.M_mono (fun k hk => ⟨⟨⟨hk.1.1, hk.1.1, .inl (by have h9 : f k = j := hk.2; omega)⟩, hk.1.2⟩, hk.2⟩) (hr.2 j (z, j) (Kd.zip_at hz))
 have h2 := Kd.R_take h (m := m) (by rw [List.length_zipIdx]; exact hm)
 have he : (xs.take m).zipIdx = xs.zipIdx.take m := by
  apply List.ext_getElem?
  intro j
  simp only [List.getElem?_zipIdx, List.getElem?_take, Nat.zero_add]
  split <;> simp
 rw [← he] at h2
 obtain ⟨h0, inner, ho, hr⟩ := h2
 refine ⟨fun k hk => ⟨h0 k hk, .inr hk.symm⟩, inner, ho, hr.1, fun j p hj => ?_⟩
 have hj2 := hj
 rw [List.getElem?_zipIdx, Nat.zero_add] at hj2
 obtain ⟨y, hy, rfl⟩ := Option.map_eq_some_iff.1 hj2
 have hlt : j < m := by have := (List.getElem?_eq_some_iff.1 hy).1; rw [List.length_take] at this; omega
 refine d.M_mono (fun k hk => ?_) (hr.2 j (y, j) hj)
 have h9 : f k = j := hk.2
 have h8 := hk.1.2
 refine ⟨⟨⟨hk.1.1, .inl (fun hg => ?_)⟩, h8⟩, hk.2⟩
 rcases hg.2 with hg | hg
 ·
  omega
 refine h8 ?_
 cases A with
 | none => simp [Value.ownBlock] at hg
 | some a => simpa [Value.ownBlock] using hg
theorem sar_tags' {α : Type} {d : Kd α} {e base m c : Nat} {W : World} {ok okx : Nat → Prop} {v : Value} {A : Option Addr} {xs ys : List α} (HO : Kd.S d e W base (fun k => ok k ∧ ¬ (okx k ∧ some k ≠ (Value.slice A m c).ownBlock)) v xs) (HX : Kd.S d e W base okx (.slice A m c) ys) :
  ∃ F : Nat → Nat, (Kd.tag F d).R e W base ok v xs.zipIdx ∧ ReadsRow (fun (p : α × Nat) cs => d.M W base (fun k => (okx k ∧ some k ≠ (Value.slice A m c).ownBlock) ∧ F k = p.2) p.1 cs) d.sz W A m (ys.zipIdx xs.length) := by
 classical
 obtain ⟨f, hf⟩ := HO
 obtain ⟨fx, hx⟩ := HX
 refine ⟨fun k => if okx k ∧ some k ≠ (Value.slice A m c).ownBlock then fx k + xs.length else f k, Kd.R_mono (Kd.R_tag hf (fun k hk _ => if_neg hk.2)) (fun _ hk => hk.1), ?_⟩
 obtain ⟨A', c', he, hl, hr⟩ := OwnRow.reads hx.2
 injection he with e1 e2 e3
 subst e1
 rw [List.length_zipIdx] at e2
 subst e2
 rw [List.length_zipIdx] at hr
 refine ⟨by rw [List.length_zipIdx], hr.2.1, fun hn => ?_⟩
 obtain ⟨ad, ha, hc⟩ := hr.2.2 hn
 refine ⟨ad, ha, fun j p hj => ?_⟩
 rw [List.getElem?_zipIdx] at hj
 obtain ⟨y, hy, rfl⟩ := Option.map_eq_some_iff.1 hj
 obtain ⟨cs, h1, h2, h3⟩ := hc j (y, j) (Kd.zip_at hy)
 refine ⟨cs, h1, d.M_mono (fun k hk => ?_) h2, h3⟩
 have h9 : fx k = j := hk.2
 refine ⟨hk.1, ?_⟩
 show (if okx k ∧ some k ≠ (Value.slice A ys.length c).ownBlock then fx k + xs.length else f k) = xs.length + j
 rw [if_pos hk.1]; omega
theorem rest_tags {α : Type} {d : Kd α} {e base m n c : Nat} {W : World} {ok okx : Nat → Prop} {v : Value} {A : Option Addr} {zs xs : List α} (hm : m ≤ xs.length) (HO : Kd.S d e W base (fun k => ok k ∧ ¬ (okx k ∧ some k ≠ (Value.slice A n c).ownBlock)) v zs) (HX : Kd.S (Kd.opt d) e W base okx (.slice A n c) (Kd.gap m xs)) :
  ∃ F : Nat → Nat, (Kd.tag F d).R e W base ok v zs.zipIdx ∧ ReadsRow (fun (p : α × Nat) cs => d.M W base (fun k => (okx k ∧ some k ≠ (Value.slice A n c).ownBlock) ∧ F k = p.2) p.1 cs) d.sz W (if c = m then A else A.map (·.add (m * d.sz))) (xs.drop m).length ((xs.drop m).zipIdx zs.length) := by
 classical
 obtain ⟨f, hf⟩ := HO
 obtain ⟨fx, hx⟩ := HX
 refine ⟨fun k => if okx k ∧ some k ≠ (Value.slice A n c).ownBlock then fx k - m + zs.length else f k, Kd.R_mono (Kd.R_tag hf (fun k hk _ => if_neg hk.2)) (fun _ hk => hk.1), ?_⟩
 obtain ⟨A', c', he, hl, hr⟩ := OwnRow.reads hx.2
 injection he with e1 e2 e3
 subst e1
 rw [List.length_zipIdx, Kd.gap_length hm] at e2
 subst e3
 rw [List.length_zipIdx, Kd.gap_length hm] at hl hr
 have hd : (xs.drop m).length = xs.length - m := List.length_drop
 refine ⟨by rw [List.length_zipIdx], by have := hr.2.1; omega, fun hn => ?_⟩
 obtain ⟨ad, ha, hc⟩ := hr.2.2 (by omega)
 subst ha
 rw [if_neg (by omega)]
 refine ⟨ad.add (m * d.sz), rfl, fun j p hj => ?_⟩
 rw [List.getElem?_zipIdx] at hj
 obtain ⟨y, hy, rfl⟩ := Option.map_eq_some_iff.1 hj
 have hy0 := hy
 rw [List.getElem?_drop] at hy
 have hg : (Kd.gap m xs)[m + j]? = some (some y) := by
  rw [Kd.gap, List.getElem?_append_right (by simp), List.length_replicate, List.getElem?_map, show m + j - m = j by omega, hy0]; rfl
 obtain ⟨cs, h1, h2, h3⟩ := hc (m + j) (some y, m + j) (Kd.zip_at hg)
 refine ⟨cs, h1, d.M_mono (fun k hk => ?_) h2, fun i u hu => ?_⟩
 ·
  have h9 : fx k = m + j := hk.2
  refine ⟨hk.1, ?_⟩
  show (if okx k ∧ some k ≠ (Value.slice (some ad) n c).ownBlock then fx k - m + zs.length else f k) = zs.length + j
  rw [if_pos hk.1]; omega
 rw [add_add, show m * d.sz + (j * d.sz + i) = (m + j) * d.sz + i by rw [Nat.add_mul]; omega]
 exact h3 i u hu
theorem Kd.S_append_part_step {P : Program} {ops : Array Oper} {o : Oper} {a : Act} {Q : Exit → Act → World → Prop} {Kc : Act → World → Prop} {α : Type} (d : Kd α) {w0 W : World} (base : Nat) (hw : Region.wanted o (yielded ops a.tmps) = true) (s x : Operand) (t e : TypeId) (z : Value) (bytes : Nat)
  (ho : o.op = .call { callee := .builtin .append, args := #[s, x], argTypes := #[t, t] })
  (ht : P.underlying t = some (.slice e)) (hinfo : (P.info? e).map (fun i => (i.zero, i.size, i.bytes)) = some (some z, d.sz, bytes)) (hz : z.cells.size = d.sz) (hs0 : 0 < d.sz) (hb0 : 0 < bytes)
  (v : Value) (xs ys : List α) (A : Option Addr) (m c : Nat) (ok okx : Nat → Prop) (hs : a.eval s = v) (hx : a.eval x = .slice A m c) (HX : Kd.S d e W base okx (.slice A m c) ys) (hokp : ∀ k, okx k → some k ≠ (Value.slice A m c).ownBlock → ok k ∧ some k ≠ v.ownBlock) (hfresh : ∀ k, W.heap.size ≤ k → ok k)
  (HO : Kd.S d e W base (fun k => ok k ∧ ¬ (okx k ∧ some k ≠ (Value.slice A m c).ownBlock)) v xs) (HB : Below base w0 W) (hbase : base ≤ W.heap.size) (hl : (xs.length + ys.length) * bytes ≤ 140737488355328)
  (h : ∀ v1 w1, Kd.S d e w1 base ok v1 (xs ++ ys) → Below base w0 w1 → W.grownBy w1 v.ownBlock → (v1.ownBlock = v.ownBlock ∨ ∃ b, v1.ownBlock = some b ∧ W.heap.size ≤ b) → Kc (a.put o.dst v1) w1) :
  if Region.wanted o (yielded ops a.tmps) = true then Oper.wp P o a W Kc Q else Kc (a.put o.dst undef) W := by
 obtain ⟨F, hR, hX⟩ := sar_tags' HO HX
 have hm : ys.length = m := (Kd.S_reads' HX).1.symm
 refine Kd.R_append_rows_step (Kd.tag F d) base hw s x t e z bytes ho ht hinfo hz hs0 hb0 v xs.zipIdx (ys.zipIdx xs.length) A m c ok (fun k => okx k ∧ some k ≠ (Value.slice A m c).ownBlock) hs hx hR hX (fun _ _ h => h) (fun k hk => hokp k hk.1 hk.2) hfresh HB hbase (by rw [List.length_zipIdx]; rw [← hm]; exact hl) ?_
 intro v1 w1 hr hb hg hat
 rw [← List.zipIdx_append' xs ys] at hr
 exact h v1 w1 ⟨F, hr⟩ hb hg hat
theorem Kd.S_append_rest_step {P : Program} {ops : Array Oper} {o : Oper} {a : Act} {Q : Exit → Act → World → Prop} {Kc : Act → World → Prop} {α : Type} (d : Kd α) {w0 W : World} (base : Nat) (hw : Region.wanted o (yielded ops a.tmps) = true) (s x : Operand) (t e : TypeId) (z : Value) (bytes : Nat)
  (ho : o.op = .call { callee := .builtin .append, args := #[s, x], argTypes := #[t, t] })
  (ht : P.underlying t = some (.slice e)) (hinfo : (P.info? e).map (fun i => (i.zero, i.size, i.bytes)) = some (some z, d.sz, bytes)) (hz : z.cells.size = d.sz) (hs0 : 0 < d.sz) (hb0 : 0 < bytes)
  (v : Value) (xs ys : List α) (A : Option Addr) (n c m c1 : Nat) (ok okx : Nat → Prop) (hs : a.eval s = v) (hm : m ≤ ys.length) (hx : a.eval x = .slice (if c = m then A else A.map (·.add (m * d.sz))) (ys.drop m).length c1) (HX : Kd.S (Kd.opt d) e W base okx (.slice A n c) (Kd.gap m ys)) (hokp : ∀ k, okx k → some k ≠ (Value.slice A n c).ownBlock → ok k ∧ some k ≠ v.ownBlock) (hfresh : ∀ k, W.heap.size ≤ k → ok k)
  (HO : Kd.S d e W base (fun k => ok k ∧ ¬ (okx k ∧ some k ≠ (Value.slice A n c).ownBlock)) v xs) (HB : Below base w0 W) (hbase : base ≤ W.heap.size) (hl : (xs.length + (ys.drop m).length) * bytes ≤ 140737488355328)
  (h : ∀ v1 w1, Kd.S d e w1 base ok v1 (xs ++ (ys.drop m)) → Below base w0 w1 → W.grownBy w1 v.ownBlock → (v1.ownBlock = v.ownBlock ∨ ∃ b, v1.ownBlock = some b ∧ W.heap.size ≤ b) → Kc (a.put o.dst v1) w1) :
  if Region.wanted o (yielded ops a.tmps) = true then Oper.wp P o a W Kc Q else Kc (a.put o.dst undef) W := by
 obtain ⟨F, hR, hX⟩ := rest_tags hm HO HX
 refine Kd.R_append_rows_step (Kd.tag F d) base hw s x t e z bytes ho ht hinfo hz hs0 hb0 v xs.zipIdx ((ys.drop m).zipIdx xs.length) _ _ c1 ok (fun k => okx k ∧ some k ≠ (Value.slice A n c).ownBlock) hs hx hR hX (fun _ _ h => h) (fun k hk => hokp k hk.1 hk.2) hfresh HB hbase (by rw [List.length_zipIdx]; exact hl) ?_
 intro v1 w1 hr hb hg hat
 rw [← List.zipIdx_append' xs (ys.drop m)] at hr
 exact h v1 w1 ⟨F, hr⟩ hb hg hat
theorem Kd.S_ngz {α : Type} {d : Kd α} {e : Nat} {w W : World} {ok G : Nat → Prop} {g : Nat} {v : Value} {xs : List α} (hG : ∀ k, G k → k < g) (hg : g < W.heap.size) (h : Kd.S d e w W.heap.size ok v xs) : Kd.S d e w W.heap.size (fun k => ok k ∧ ¬ G k) v xs := Kd.S_mono (Kd.S_bound h) (fun k hk => ⟨hk.1, fun h2 => by have := hG k h2; have := hk.2.1; omega⟩)
/-! #### struct type 85 -/
structure S85 where
 f0 : ByteArray
 f1 : ByteArray
def z85 : S85 := ⟨(⟨#[]⟩ : ByteArray), (⟨#[]⟩ : ByteArray)⟩
def k85 : Kd S85 := Kd.iso (Kd.pair Kd.string Kd.string) (fun x : S85 => (x.f0, x.f1))
theorem k85_open {w : World} {x : S85} {cs : List Value} (h : k85.K w x cs) : cs = [.string x.f0, .string x.f1] := by
 obtain ⟨_, _, rfl, rfl, rfl⟩ := h
 exact rfl
def rd_T85 (xs : List S85) (i : Int) : S85 := xs.getD i.toNat z85
theorem at_T85 {w : World} {A : Option Addr} {n : Nat} {xs : List S85} (h : Kd.C k85 w A n xs) (i : Int) (h0 : 0 ≤ i) (h1 : i < n) : ∃ ad , A = some ad ∧ w.cell? (ad.add (i.toNat * 2)) = some (.string (rd_T85 xs i).f0) ∧ w.cell? ⟨(ad.add (i.toNat * 2)).block, (ad.add (i.toNat * 2)).off + 1, none⟩ = some (.string (rd_T85 xs i).f1) := by
 obtain ⟨ad, c, e, _, hK, hc0⟩ := Kd.C_get h z85 i h0 h1
 have hc : ∀ j u, c[j]? = some u → w.cell? (ad.add (i.toNat * 2 + j)) = some u := hc0
 obtain rfl := k85_open hK
 exact ⟨ad, e, hc 0 _ rfl, by rw [← add_field _ _ 1 (by omega)]; exact hc 1 _ rfl⟩

def rd_L2 (xs : List (List S85)) (i : Int) : (List S85) := xs.getD i.toNat ([] : List S85)
/-! #### struct type 35 -/
structure S35 where
 f0 : (List S85)
 f1 : Int
 f2 : Int
 f3 : ByteArray
def z35 : S35 := ⟨([] : List S85), (0 : Int), (0 : Int), (⟨#[]⟩ : ByteArray)⟩
def k35 : Kd S35 := Kd.iso (Kd.pair (Kd.slice 85 k85) (Kd.pair (Kd.int .i64) (Kd.pair (Kd.int .i64) Kd.string))) (fun x : S35 => (x.f0, x.f1, x.f2, x.f3))
theorem k35_open {w : World} {x : S35} {cs : List Value} (h : k35.K w x cs) : ∃ A0 c0, cs = [.slice A0 x.f0.length c0, .int .i64 x.f1, .int .i64 x.f2, .string x.f3] ∧ x.f0.length ≤ c0 ∧ k85.C w A0 x.f0.length x.f0 := by
 obtain ⟨_, _, rfl, ⟨A0, c0, rfl, l0, g0⟩, ⟨_, _, rfl, rfl, ⟨_, _, rfl, rfl, rfl⟩⟩⟩ := h
 exact ⟨A0, c0, rfl, l0, g0⟩
def rd_T35 (xs : List S35) (i : Int) : S35 := xs.getD i.toNat z35
theorem at_T35 {w : World} {A : Option Addr} {n : Nat} {xs : List S35} (h : Kd.C k35 w A n xs) (i : Int) (h0 : 0 ≤ i) (h1 : i < n) : ∃ ad A0 c0, A = some ad ∧ w.cell? (ad.add (i.toNat * 4)) = some (.slice A0 (rd_T35 xs i).f0.length c0) ∧ w.cell? ⟨(ad.add (i.toNat * 4)).block, (ad.add (i.toNat * 4)).off + 1, none⟩ = some (.int .i64 (rd_T35 xs i).f1) ∧ w.cell? ⟨(ad.add (i.toNat * 4)).block, (ad.add (i.toNat * 4)).off + 2, none⟩ = some (.int .i64 (rd_T35 xs i).f2) ∧ w.cell? ⟨(ad.add (i.toNat * 4)).block, (ad.add (i.toNat * 4)).off + 3, none⟩ = some (.string (rd_T35 xs i).f3) ∧ (rd_T35 xs i).f0.length ≤ c0 ∧ k85.C w A0 (rd_T35 xs i).f0.length (rd_T35 xs i).f0 := by
 obtain ⟨ad, c, e, _, hK, hc0⟩ := Kd.C_get h z35 i h0 h1
 have hc : ∀ j u, c[j]? = some u → w.cell? (ad.add (i.toNat * 4 + j)) = some u := hc0
 obtain ⟨A0, c0, rfl, l0, g0⟩ := k35_open hK
 exact ⟨ad, A0, c0, e, hc 0 _ rfl, by rw [← add_field _ _ 1 (by omega)]; exact hc 1 _ rfl, by rw [← add_field _ _ 2 (by omega)]; exact hc 2 _ rfl, by rw [← add_field _ _ 3 (by omega)]; exact hc 3 _ rfl, l0, g0⟩

def rd_L5 (xs : List (List S35)) (i : Int) : (List S35) := xs.getD i.toNat ([] : List S35)
/-! #### struct type 119 -/
structure S119 where
 f0 : Int
 f1 : (List S35)
def z119 : S119 := ⟨(0 : Int), ([] : List S35)⟩
def k119 : Kd S119 := Kd.iso (Kd.pair (Kd.int .i64) (Kd.slice 35 k35)) (fun x : S119 => (x.f0, x.f1))
theorem k119_open {w : World} {x : S119} {cs : List Value} (h : k119.K w x cs) : ∃ A1 c1, cs = [.int .i64 x.f0, .slice A1 x.f1.length c1] ∧ x.f1.length ≤ c1 ∧ k35.C w A1 x.f1.length x.f1 := by
 obtain ⟨_, _, rfl, rfl, ⟨A1, c1, rfl, l1, g1⟩⟩ := h
 exact ⟨A1, c1, rfl, l1, g1⟩
def rd_T119 (xs : List S119) (i : Int) : S119 := xs.getD i.toNat z119
theorem at_T119 {w : World} {A : Option Addr} {n : Nat} {xs : List S119} (h : Kd.C k119 w A n xs) (i : Int) (h0 : 0 ≤ i) (h1 : i < n) : ∃ ad A1 c1, A = some ad ∧ w.cell? (ad.add (i.toNat * 2)) = some (.int .i64 (rd_T119 xs i).f0) ∧ w.cell? ⟨(ad.add (i.toNat * 2)).block, (ad.add (i.toNat * 2)).off + 1, none⟩ = some (.slice A1 (rd_T119 xs i).f1.length c1) ∧ (rd_T119 xs i).f1.length ≤ c1 ∧ k35.C w A1 (rd_T119 xs i).f1.length (rd_T119 xs i).f1 := by
 obtain ⟨ad, c, e, _, hK, hc0⟩ := Kd.C_get h z119 i h0 h1
 have hc : ∀ j u, c[j]? = some u → w.cell? (ad.add (i.toNat * 2 + j)) = some u := hc0
 obtain ⟨A1, c1, rfl, l1, g1⟩ := k119_open hK
 exact ⟨ad, A1, c1, e, hc 0 _ rfl, by rw [← add_field _ _ 1 (by omega)]; exact hc 1 _ rfl, l1, g1⟩

def rd_L7 (xs : List (List S119)) (i : Int) : (List S119) := xs.getD i.toNat ([] : List S119)
/-! #### struct type 52 -/
structure S52 where
 f0 : Int
 f1 : Int
 f2 : (List S119)
def z52 : S52 := ⟨(0 : Int), (0 : Int), ([] : List S119)⟩
def k52 : Kd S52 := Kd.iso (Kd.pair (Kd.int .i64) (Kd.pair (Kd.int .i64) (Kd.slice 119 k119))) (fun x : S52 => (x.f0, x.f1, x.f2))
theorem k52_open {w : World} {x : S52} {cs : List Value} (h : k52.K w x cs) : ∃ A2 c2, cs = [.int .i64 x.f0, .int .i64 x.f1, .slice A2 x.f2.length c2] ∧ x.f2.length ≤ c2 ∧ k119.C w A2 x.f2.length x.f2 := by
 obtain ⟨_, _, rfl, rfl, ⟨_, _, rfl, rfl, ⟨A2, c2, rfl, l2, g2⟩⟩⟩ := h
 exact ⟨A2, c2, rfl, l2, g2⟩
def rd_T52 (xs : List S52) (i : Int) : S52 := xs.getD i.toNat z52
theorem at_T52 {w : World} {A : Option Addr} {n : Nat} {xs : List S52} (h : Kd.C k52 w A n xs) (i : Int) (h0 : 0 ≤ i) (h1 : i < n) : ∃ ad A2 c2, A = some ad ∧ w.cell? (ad.add (i.toNat * 3)) = some (.int .i64 (rd_T52 xs i).f0) ∧ w.cell? ⟨(ad.add (i.toNat * 3)).block, (ad.add (i.toNat * 3)).off + 1, none⟩ = some (.int .i64 (rd_T52 xs i).f1) ∧ w.cell? ⟨(ad.add (i.toNat * 3)).block, (ad.add (i.toNat * 3)).off + 2, none⟩ = some (.slice A2 (rd_T52 xs i).f2.length c2) ∧ (rd_T52 xs i).f2.length ≤ c2 ∧ k119.C w A2 (rd_T52 xs i).f2.length (rd_T52 xs i).f2 := by
 obtain ⟨ad, c, e, _, hK, hc0⟩ := Kd.C_get h z52 i h0 h1
 have hc : ∀ j u, c[j]? = some u → w.cell? (ad.add (i.toNat * 3 + j)) = some u := hc0
 obtain ⟨A2, c2, rfl, l2, g2⟩ := k52_open hK
 exact ⟨ad, A2, c2, e, hc 0 _ rfl, by rw [← add_field _ _ 1 (by omega)]; exact hc 1 _ rfl, by rw [← add_field _ _ 2 (by omega)]; exact hc 2 _ rfl, l2, g2⟩

/-! #### struct type 88 -/
structure S88 where
 f0 : ByteArray
 f1 : ByteArray
def z88 : S88 := ⟨(⟨#[]⟩ : ByteArray), (⟨#[]⟩ : ByteArray)⟩
def k88 : Kd S88 := Kd.iso (Kd.pair Kd.string Kd.string) (fun x : S88 => (x.f0, x.f1))
theorem k88_open {w : World} {x : S88} {cs : List Value} (h : k88.K w x cs) : cs = [.string x.f0, .string x.f1] := by
 obtain ⟨_, _, rfl, rfl, rfl⟩ := h
 exact rfl
theorem k88_openM {w : World} {base : Nat} {ok : Nat → Prop} {x : S88} {cs : List Value} (h : k88.M w base ok x cs) : cs = [.string x.f0, .string x.f1] := by
 obtain ⟨_, _, rfl, rfl, rfl⟩ := h
 exact rfl
theorem k88_mkM (w : World) (base : Nat) (ok : Nat → Prop) (x : S88)  : k88.M w base ok x [.string x.f0, .string x.f1] := ⟨[.string x.f0], [.string x.f1], rfl, rfl, rfl⟩
def rd_T88 (xs : List S88) (i : Int) : S88 := xs.getD i.toNat z88
theorem at_T88 {w : World} {A : Option Addr} {n : Nat} {xs : List S88} (h : Kd.C k88 w A n xs) (i : Int) (h0 : 0 ≤ i) (h1 : i < n) : ∃ ad , A = some ad ∧ w.cell? (ad.add (i.toNat * 2)) = some (.string (rd_T88 xs i).f0) ∧ w.cell? ⟨(ad.add (i.toNat * 2)).block, (ad.add (i.toNat * 2)).off + 1, none⟩ = some (.string (rd_T88 xs i).f1) := by
 obtain ⟨ad, c, e, _, hK, hc0⟩ := Kd.C_get h z88 i h0 h1
 have hc : ∀ j u, c[j]? = some u → w.cell? (ad.add (i.toNat * 2 + j)) = some u := hc0
 obtain rfl := k88_open hK
 exact ⟨ad, e, hc 0 _ rfl, by rw [← add_field _ _ 1 (by omega)]; exact hc 1 _ rfl⟩

def rd_L10 (xs : List (List S88)) (i : Int) : (List S88) := xs.getD i.toNat ([] : List S88)
/-! #### struct type 43 -/
structure S43 where
 f0 : (List S88)
 f1 : Int
 f2 : Int
 f3 : ByteArray
def z43 : S43 := ⟨([] : List S88), (0 : Int), (0 : Int), (⟨#[]⟩ : ByteArray)⟩
def k43 : Kd S43 := Kd.iso (Kd.pair (Kd.slice 88 k88) (Kd.pair (Kd.int .i64) (Kd.pair (Kd.int .i64) Kd.string))) (fun x : S43 => (x.f0, x.f1, x.f2, x.f3))
theorem k43_open {w : World} {x : S43} {cs : List Value} (h : k43.K w x cs) : ∃ A0 c0, cs = [.slice A0 x.f0.length c0, .int .i64 x.f1, .int .i64 x.f2, .string x.f3] ∧ x.f0.length ≤ c0 ∧ k88.C w A0 x.f0.length x.f0 := by
 obtain ⟨_, _, rfl, ⟨A0, c0, rfl, l0, g0⟩, ⟨_, _, rfl, rfl, ⟨_, _, rfl, rfl, rfl⟩⟩⟩ := h
 exact ⟨A0, c0, rfl, l0, g0⟩
theorem k43_openM {w : World} {base : Nat} {ok : Nat → Prop} {x : S43} {cs : List Value} (h : k43.M w base ok x cs) : ∃ v0, cs = [v0, .int .i64 x.f1, .int .i64 x.f2, .string x.f3] ∧ k88.R 88 w base ok v0 x.f0 := by
 obtain ⟨_, _, rfl, ⟨v0, rfl, g0⟩, ⟨_, _, rfl, rfl, ⟨_, _, rfl, rfl, rfl⟩⟩⟩ := h
 exact ⟨v0, rfl, g0⟩
theorem k43_mkM (w : World) (base : Nat) (ok : Nat → Prop) (x : S43) {v0 : Value} (g0 : k88.R 88 w base ok v0 x.f0) : k43.M w base ok x [v0, .int .i64 x.f1, .int .i64 x.f2, .string x.f3] := ⟨[v0], [.int .i64 x.f1, .int .i64 x.f2, .string x.f3], rfl, ⟨v0, rfl, g0⟩, ⟨[.int .i64 x.f1], [.int .i64 x.f2, .string x.f3], rfl, rfl, ⟨[.int .i64 x.f2], [.string x.f3], rfl, rfl, rfl⟩⟩⟩
def rd_T43 (xs : List S43) (i : Int) : S43 := xs.getD i.toNat z43
theorem at_T43 {w : World} {A : Option Addr} {n : Nat} {xs : List S43} (h : Kd.C k43 w A n xs) (i : Int) (h0 : 0 ≤ i) (h1 : i < n) : ∃ ad A0 c0, A = some ad ∧ w.cell? (ad.add (i.toNat * 4)) = some (.slice A0 (rd_T43 xs i).f0.length c0) ∧ w.cell? ⟨(ad.add (i.toNat * 4)).block, (ad.add (i.toNat * 4)).off + 1, none⟩ = some (.int .i64 (rd_T43 xs i).f1) ∧ w.cell? ⟨(ad.add (i.toNat * 4)).block, (ad.add (i.toNat * 4)).off + 2, none⟩ = some (.int .i64 (rd_T43 xs i).f2) ∧ w.cell? ⟨(ad.add (i.toNat * 4)).block, (ad.add (i.toNat * 4)).off + 3, none⟩ = some (.string (rd_T43 xs i).f3) ∧ (rd_T43 xs i).f0.length ≤ c0 ∧ k88.C w A0 (rd_T43 xs i).f0.length (rd_T43 xs i).f0 := by
 obtain ⟨ad, c, e, _, hK, hc0⟩ := Kd.C_get h z43 i h0 h1
 have hc : ∀ j u, c[j]? = some u → w.cell? (ad.add (i.toNat * 4 + j)) = some u := hc0
 obtain ⟨A0, c0, rfl, l0, g0⟩ := k43_open hK
 exact ⟨ad, A0, c0, e, hc 0 _ rfl, by rw [← add_field _ _ 1 (by omega)]; exact hc 1 _ rfl, by rw [← add_field _ _ 2 (by omega)]; exact hc 2 _ rfl, by rw [← add_field _ _ 3 (by omega)]; exact hc 3 _ rfl, l0, g0⟩

def rd_L12 (xs : List (List S43)) (i : Int) : (List S43) := xs.getD i.toNat ([] : List S43)
/-! #### struct type 100 -/
structure S100 where
 f0 : Int
 f1 : (List S43)
def z100 : S100 := ⟨(0 : Int), ([] : List S43)⟩
def k100 : Kd S100 := Kd.iso (Kd.pair (Kd.int .i64) (Kd.slS 43 k43)) (fun x : S100 => (x.f0, x.f1))
theorem k100_open {w : World} {x : S100} {cs : List Value} (h : k100.K w x cs) : ∃ A1 c1, cs = [.int .i64 x.f0, .slice A1 x.f1.length c1] ∧ x.f1.length ≤ c1 ∧ k43.C w A1 x.f1.length x.f1 := by
 obtain ⟨_, _, rfl, rfl, ⟨A1, c1, rfl, l1, g1⟩⟩ := h
 exact ⟨A1, c1, rfl, l1, g1⟩
theorem k100_openM {w : World} {base : Nat} {ok : Nat → Prop} {x : S100} {cs : List Value} (h : k100.M w base ok x cs) : ∃ v1, cs = [.int .i64 x.f0, v1] ∧ Kd.S k43 43 w base ok v1 x.f1 := by
 obtain ⟨_, _, rfl, rfl, ⟨v1, rfl, g1⟩⟩ := h
 exact ⟨v1, rfl, g1⟩
theorem k100_mkM (w : World) (base : Nat) (ok : Nat → Prop) (x : S100) {v1 : Value} (g1 : Kd.S k43 43 w base ok v1 x.f1) : k100.M w base ok x [.int .i64 x.f0, v1] := ⟨[.int .i64 x.f0], [v1], rfl, rfl, ⟨v1, rfl, g1⟩⟩
def rd_T100 (xs : List S100) (i : Int) : S100 := xs.getD i.toNat z100
theorem at_T100 {w : World} {A : Option Addr} {n : Nat} {xs : List S100} (h : Kd.C k100 w A n xs) (i : Int) (h0 : 0 ≤ i) (h1 : i < n) : ∃ ad A1 c1, A = some ad ∧ w.cell? (ad.add (i.toNat * 2)) = some (.int .i64 (rd_T100 xs i).f0) ∧ w.cell? ⟨(ad.add (i.toNat * 2)).block, (ad.add (i.toNat * 2)).off + 1, none⟩ = some (.slice A1 (rd_T100 xs i).f1.length c1) ∧ (rd_T100 xs i).f1.length ≤ c1 ∧ k43.C w A1 (rd_T100 xs i).f1.length (rd_T100 xs i).f1 := by
 obtain ⟨ad, c, e, _, hK, hc0⟩ := Kd.C_get h z100 i h0 h1
 have hc : ∀ j u, c[j]? = some u → w.cell? (ad.add (i.toNat * 2 + j)) = some u := hc0
 obtain ⟨A1, c1, rfl, l1, g1⟩ := k100_open hK
 exact ⟨ad, A1, c1, e, hc 0 _ rfl, by rw [← add_field _ _ 1 (by omega)]; exact hc 1 _ rfl, l1, g1⟩

def rd_L14 (xs : List (List S100)) (i : Int) : (List S100) := xs.getD i.toNat ([] : List S100)
/-! #### struct type 57 -/
structure S57 where
 f0 : Int
 f1 : Int
 f2 : (List S100)
def z57 : S57 := ⟨(0 : Int), (0 : Int), ([] : List S100)⟩
def k57 : Kd S57 := Kd.iso (Kd.pair (Kd.int .i64) (Kd.pair (Kd.int .i64) (Kd.slS 100 k100))) (fun x : S57 => (x.f0, x.f1, x.f2))
theorem k57_open {w : World} {x : S57} {cs : List Value} (h : k57.K w x cs) : ∃ A2 c2, cs = [.int .i64 x.f0, .int .i64 x.f1, .slice A2 x.f2.length c2] ∧ x.f2.length ≤ c2 ∧ k100.C w A2 x.f2.length x.f2 := by
 obtain ⟨_, _, rfl, rfl, ⟨_, _, rfl, rfl, ⟨A2, c2, rfl, l2, g2⟩⟩⟩ := h
 exact ⟨A2, c2, rfl, l2, g2⟩
theorem k57_openM {w : World} {base : Nat} {ok : Nat → Prop} {x : S57} {cs : List Value} (h : k57.M w base ok x cs) : ∃ v2, cs = [.int .i64 x.f0, .int .i64 x.f1, v2] ∧ Kd.S k100 100 w base ok v2 x.f2 := by
 obtain ⟨_, _, rfl, rfl, ⟨_, _, rfl, rfl, ⟨v2, rfl, g2⟩⟩⟩ := h
 exact ⟨v2, rfl, g2⟩
theorem k57_mkM (w : World) (base : Nat) (ok : Nat → Prop) (x : S57) {v2 : Value} (g2 : Kd.S k100 100 w base ok v2 x.f2) : k57.M w base ok x [.int .i64 x.f0, .int .i64 x.f1, v2] := ⟨[.int .i64 x.f0], [.int .i64 x.f1, v2], rfl, rfl, ⟨[.int .i64 x.f1], [v2], rfl, rfl, ⟨v2, rfl, g2⟩⟩⟩
def rd_T57 (xs : List S57) (i : Int) : S57 := xs.getD i.toNat z57
theorem at_T57 {w : World} {A : Option Addr} {n : Nat} {xs : List S57} (h : Kd.C k57 w A n xs) (i : Int) (h0 : 0 ≤ i) (h1 : i < n) : ∃ ad A2 c2, A = some ad ∧ w.cell? (ad.add (i.toNat * 3)) = some (.int .i64 (rd_T57 xs i).f0) ∧ w.cell? ⟨(ad.add (i.toNat * 3)).block, (ad.add (i.toNat * 3)).off + 1, none⟩ = some (.int .i64 (rd_T57 xs i).f1) ∧ w.cell? ⟨(ad.add (i.toNat * 3)).block, (ad.add (i.toNat * 3)).off + 2, none⟩ = some (.slice A2 (rd_T57 xs i).f2.length c2) ∧ (rd_T57 xs i).f2.length ≤ c2 ∧ k100.C w A2 (rd_T57 xs i).f2.length (rd_T57 xs i).f2 := by
 obtain ⟨ad, c, e, _, hK, hc0⟩ := Kd.C_get h z57 i h0 h1
 have hc : ∀ j u, c[j]? = some u → w.cell? (ad.add (i.toNat * 3 + j)) = some u := hc0
 obtain ⟨A2, c2, rfl, l2, g2⟩ := k57_open hK
 exact ⟨ad, A2, c2, e, hc 0 _ rfl, by rw [← add_field _ _ 1 (by omega)]; exact hc 1 _ rfl, by rw [← add_field _ _ 2 (by omega)]; exact hc 2 _ rfl, l2, g2⟩
end Go.Proofs.Yticgekgojgkbgaa.Print
end
section
namespace Go.Proofs.Yticgekgojgkbgaa.Print
open Go.RowKit Go.Proofs.YticgekgojgkbgaaV.PrintWords Go.Proofs.YticgekgojgkbgaaV.PrintLast Go.Proofs.YticgekgojgkbgaaV.PrintMore
open Go.ChangeShapes Go.WideShapes Go.Deep
set_option linter.unusedVariables false
/-- A value that is read as data of type t is of kind d, and B of it. -/
def Opens {α : Type} (P : Program) (t : TypeId) (d : Kd α) (B : α → Prop) : Prop :=
 ∀ (H : Type) (enc : TypeId × Value → H) (w : World) (base : Nat) (fuel : Nat) (cs : List Value) (x : DataW H × List MemPlace),
  DataW.trod enc P w base (fun _ => true) true fuel t cs = some x → ∃ y, d.K w y cs ∧ B y
theorem opens_int {P : Program} {t : TypeId} {k : IntKind} (ht : P.underlying t = some (.int k)) : Opens P t (Kd.int k) (fun n => (Lit.int k n).wf = true) := by
 intro H enc w base fuel cs x h
 obtain ⟨n, rfl, _, hw⟩ := DataW.trod_int ht h
 exact ⟨n, rfl, hw⟩
theorem opens_bool {P : Program} {t : TypeId} (ht : P.underlying t = some .bool) : Opens P t Kd.bool (fun _ => True) := by
 intro H enc w base fuel cs x h
 obtain ⟨n, rfl, _⟩ := DataW.trod_bool ht h
 exact ⟨n, rfl, trivial⟩
theorem opens_string {P : Program} {t : TypeId} (ht : P.underlying t = some .string) : Opens P t Kd.string (fun s => s.size ≤ maxLen) := by
 intro H enc w base fuel cs x h
 obtain ⟨n, rfl, _, hw⟩ := DataW.trod_string ht h
 exact ⟨n, rfl, hw⟩
theorem list_of_each {α : Type} (R : Nat → α → Prop) : ∀ n, (∀ i, i < n → ∃ y, R i y) → ∃ l : List α, l.length = n ∧ ∀ i y, l[i]? = some y → R i y
 | 0, _ => ⟨[], rfl, fun i y h => by simp at h⟩
 | n + 1, h => by
  obtain ⟨l, hl, hr⟩ := list_of_each R n (fun i hi => h i (by omega))
  obtain ⟨z, hz⟩ := h n (by omega)
  refine ⟨l ++ [z], by simp [hl], fun i y hy => ?_⟩
  by_cases hi : i < l.length
  ·
   rw [List.getElem?_append_left hi] at hy
   exact hr i y hy
  ·
   rw [List.getElem?_append_right (by omega)] at hy
   have hi0 : i - l.length = 0 := by
    by_cases h0 : i - l.length = 0
    ·
     exact h0
    ·
     rw [List.getElem?_eq_none (by simp; omega)] at hy
     cases hy
   rw [hi0] at hy
   have e : i = n := by omega
   subst e
   injection hy with hy
   subst hy
   exact hz
theorem opens_slice {α : Type} {P : Program} {t e : TypeId} {d : Kd α} {B : α → Prop} (ht : P.underlying t = some (.slice e)) (hc : P.cellsOf e = d.sz) (ho : Opens P e d B) :
  Opens P t (Kd.slice e d) (fun l => l.length ≤ maxLen ∧ ∀ y ∈ l, B y) := by
 intro H enc w base fuel cs x h
 rcases open_slice ht h with ⟨rfl, _⟩ | ⟨a, len, cap, m, n, D, Pl, rfl, hb, hl, hm, hmm, _, hi⟩
 ·
  exact ⟨[], ⟨none, 0, rfl, Nat.le_refl _, Kd.C_nil d w⟩, Nat.zero_le _, fun y hy => by simp at hy⟩
 ·
  have hmc : m = cap := by simpa using hmm
  subst hmc
  obtain ⟨l, hlen, hr⟩ := list_of_each (fun i y => (∃ c, c.length = d.sz ∧ d.K w y c ∧ ∀ j u, c[j]? = some u → w.cell? (a.add (i * d.sz + j)) = some u) ∧ B y) len (by
   intro i hil
   obtain ⟨cs', hcs, htr⟩ := hi i (by omega)
   obtain ⟨y, hK, hB⟩ := ho _ _ _ _ _ _ _ htr
   obtain ⟨_, hcl, hat⟩ := World.cells?_some hcs
   refine ⟨y, ⟨cs', by rw [hcl, hc], hK, fun j u hj => ?_⟩, hB⟩
   have hjl : j < cs'.length := (List.getElem?_eq_some_iff.1 hj).1
   have h2 := hat j (by omega)
   rw [Addr.add_add, hc] at h2
   rw [h2, hj])
  subst hlen
  refine ⟨l, ⟨some a, m, rfl, hl, rfl, by simp only [maxLen] at hm; omega, fun _ => ⟨a, rfl, fun j p hj => ?_⟩⟩, by omega, fun y hy => ?_⟩
  ·
   obtain ⟨⟨c, h1, h2, h3⟩, _⟩ := hr j p hj
   exact ⟨c, h1, h2, h3⟩
  ·
   obtain ⟨i, hi2, e⟩ := List.mem_iff_getElem.1 hy
   exact (hr i y (by rw [List.getElem?_eq_getElem hi2, e])).2
/-- Fields in line, from cell 'off' on. -/
def OpensF {α : Type} (P : Program) (fs : List Field) (off : Nat) (d : Kd α) (B : α → Prop) : Prop :=
 ∀ (H : Type) (enc : TypeId × Value → H) (w : World) (base : Nat) (n : Nat) (cs : List Value), cs.length = off + d.sz →
  (∀ f, f ∈ fs → ∃ x, DataW.trod enc P w base (fun _ => true) true n f.type ((cs.drop f.offset).take (P.cellsOf f.type)) = some x) → ∃ y, d.K w y (cs.drop off) ∧ B y
theorem opensF_one {α : Type} {P : Program} {f : Field} {off : Nat} {d : Kd α} {B : α → Prop} (hf : f.offset = off) (hc : P.cellsOf f.type = d.sz) (ho : Opens P f.type d B) : OpensF P [f] off d B := by
 intro H enc w base n cs hl h
 obtain ⟨x, hx⟩ := h f (List.mem_singleton.2 rfl)
 rw [hf, hc, List.take_of_length_le (by rw [List.length_drop]; omega)] at hx
 exact ho _ _ _ _ _ _ _ hx
theorem opensF_cons {α β : Type} {P : Program} {f : Field} {fs : List Field} {off : Nat} {a : Kd α} {b : Kd β} {A : α → Prop} {B : β → Prop} (hf : f.offset = off) (hc : P.cellsOf f.type = a.sz) (ha : Opens P f.type a A) (hb : OpensF P fs (off + a.sz) b B) :
  OpensF P (f :: fs) off (Kd.pair a b) (fun p => A p.1 ∧ B p.2) := by
 intro H enc w base n cs hl h
 have hsz : (Kd.pair a b).sz = a.sz + b.sz := rfl
 obtain ⟨x, hx⟩ := h f List.mem_cons_self
 rw [hf, hc] at hx
 obtain ⟨y, hK, hA⟩ := ha _ _ _ _ _ _ _ hx
 obtain ⟨z, hK2, hB⟩ := hb H enc w base n cs (by omega) (fun f' hf' => h f' (List.mem_cons_of_mem _ hf'))
 exact ⟨(y, z), ⟨_, _, by rw [← List.drop_drop, List.take_append_drop], hK, hK2⟩, hA, hB⟩
theorem opensF_iso {α β : Type} {P : Program} {fs : List Field} {off : Nat} {d : Kd α} {f : β → α} {B : α → Prop} {B' : β → Prop} (gf : α → β) (hg : ∀ y, f (gf y) = y) (hB : ∀ y, B y → B' (gf y)) (ho : OpensF P fs off d B) : OpensF P fs off (Kd.iso d f) B' := by
 intro H enc w base n cs hl h
 obtain ⟨y, hK, hB2⟩ := ho H enc w base n cs hl h
 exact ⟨gf y, by show d.K w (f (gf y)) _; rw [hg]; exact hK, hB y hB2⟩
theorem opens_struct {α : Type} {P : Program} {t : TypeId} {fs : Array Field} {d : Kd α} {B : α → Prop} (ht : P.underlying t = some (.struct fs)) (hl : P.cellsOf t = d.sz) (ho : OpensF P fs.toList 0 d B) : Opens P t d B := by
 intro H enc w base fuel cs x h
 obtain ⟨xs, n, _, _, hlen, hxl, hf⟩ := DataW.trod_struct ht h
 have := ho H enc w base n cs (by omega) (fun f hfm => by
  obtain ⟨i, hi, e⟩ := List.mem_iff_getElem.1 hfm
  have hi2 : i < fs.size := by simpa using hi
  have h2 := hf i f (by rw [Array.getElem?_eq_getElem hi2]; exact congrArg some (by simpa using e))
  rw [List.getElem?_eq_getElem (by omega)] at h2
  exact ⟨_, h2⟩)
 simpa using this

def B85 (x : S85) : Prop := x.f0.size ≤ maxLen ∧ x.f1.size ≤ maxLen
theorem opens_85 : Opens Try.prog 85 k85 B85 :=
 opens_struct Try.underlying85 (by kernel_rfl) (opensF_iso (d := (Kd.pair Kd.string Kd.string)) (fun p => ⟨p.1, p.2⟩) (fun _ => rfl) (fun y hy => by unfold B85; exact hy) (opensF_cons rfl (by kernel_rfl) (opens_string Try.underlying9) (opensF_one rfl (by kernel_rfl) (opens_string Try.underlying9))))
def B35 (x : S35) : Prop := (x.f0.length ≤ maxLen ∧ ∀ y ∈ x.f0, B85 y) ∧ (Lit.int .i64 x.f1).wf = true ∧ (Lit.int .i64 x.f2).wf = true ∧ x.f3.size ≤ maxLen
theorem opens_35 : Opens Try.prog 35 k35 B35 :=
 opens_struct Try.underlying35 (by kernel_rfl) (opensF_iso (d := (Kd.pair (Kd.slice 85 k85) (Kd.pair (Kd.int .i64) (Kd.pair (Kd.int .i64) Kd.string)))) (fun p => ⟨p.1, p.2.1, p.2.2.1, p.2.2.2⟩) (fun _ => rfl) (fun y hy => by unfold B35; exact hy) (opensF_cons rfl (by kernel_rfl) (opens_slice Try.underlying23 (by kernel_rfl) opens_85) (opensF_cons rfl (by kernel_rfl) (opens_int Try.underlying3) (opensF_cons rfl (by kernel_rfl) (opens_int Try.underlying3) (opensF_one rfl (by kernel_rfl) (opens_string Try.underlying9))))))
def B119 (x : S119) : Prop := (Lit.int .i64 x.f0).wf = true ∧ (x.f1.length ≤ maxLen ∧ ∀ y ∈ x.f1, B35 y)
theorem opens_119 : Opens Try.prog 119 k119 B119 :=
 opens_struct Try.underlying119 (by kernel_rfl) (opensF_iso (d := (Kd.pair (Kd.int .i64) (Kd.slice 35 k35))) (fun p => ⟨p.1, p.2⟩) (fun _ => rfl) (fun y hy => by unfold B119; exact hy) (opensF_cons rfl (by kernel_rfl) (opens_int Try.underlying3) (opensF_one rfl (by kernel_rfl) (opens_slice Try.underlying37 (by kernel_rfl) opens_35))))
def B52 (x : S52) : Prop := (Lit.int .i64 x.f0).wf = true ∧ (Lit.int .i64 x.f1).wf = true ∧ (x.f2.length ≤ maxLen ∧ ∀ y ∈ x.f2, B119 y)
theorem opens_52 : Opens Try.prog 52 k52 B52 :=
 opens_struct Try.underlying52 (by kernel_rfl) (opensF_iso (d := (Kd.pair (Kd.int .i64) (Kd.pair (Kd.int .i64) (Kd.slice 119 k119)))) (fun p => ⟨p.1, p.2.1, p.2.2⟩) (fun _ => rfl) (fun y hy => by unfold B52; exact hy) (opensF_cons rfl (by kernel_rfl) (opens_int Try.underlying3) (opensF_cons rfl (by kernel_rfl) (opens_int Try.underlying3) (opensF_one rfl (by kernel_rfl) (opens_slice Try.underlying50 (by kernel_rfl) opens_119)))))
structure S39 where
 f0 : Int
 f1 : Int
 f2 : S35
 f3 : List (S85)
 f4 : Int
 f5 : List Int
 f6 : List (S35)
 f7 : Int
 f8 : Int
def z39 : S39 := ⟨(0 : Int), (0 : Int), (z35 : S35), ([] : List (S85)), (0 : Int), ([] : List Int), ([] : List (S35)), (0 : Int), (0 : Int)⟩
def B39 (x : S39) : Prop := (Lit.int .i64 x.f0).wf = true ∧ (Lit.int .i64 x.f1).wf = true ∧ B35 x.f2 ∧ (x.f3.length ≤ maxLen ∧ ∀ y ∈ x.f3, B85 y) ∧ (Lit.int .i64 x.f4).wf = true ∧ (x.f5.length ≤ maxLen ∧ ∀ y ∈ x.f5, (Lit.int .i64 y).wf = true) ∧ (x.f6.length ≤ maxLen ∧ ∀ y ∈ x.f6, B35 y) ∧ (Lit.int .i64 x.f7).wf = true ∧ (Lit.int .i64 x.f8).wf = true
structure S46 where
 f0 : Int
 f1 : Int
 f2 : S43
 f3 : List (S88)
 f4 : Int
 f5 : List Int
 f6 : List (S43)
 f7 : Int
 f8 : Int
def z46 : S46 := ⟨(0 : Int), (0 : Int), (z43 : S43), ([] : List (S88)), (0 : Int), ([] : List Int), ([] : List (S43)), (0 : Int), (0 : Int)⟩
def B88 (x : S88) : Prop := x.f0.size ≤ maxLen ∧ x.f1.size ≤ maxLen
end Go.Proofs.Yticgekgojgkbgaa.Print
end
section
namespace Go.Proofs.Yticgekgojgkbgaa.Print
open Go.RowKit Go.Proofs.YticgekgojgkbgaaV.PrintWords Go.Proofs.YticgekgojgkbgaaV.PrintLast Go.Proofs.YticgekgojgkbgaaV.PrintMore
set_option linter.unusedVariables false
set_option linter.unusedSimpArgs false
namespace Kd
variable {α : Type} {d : Kd α} {e n m cap g base : Nat} {w w1 W : World} {ok : Nat → Prop} {v : Value} {xs : List α}
theorem S_ltz (hz : n = w.heap.size) (h : Kd.S d e w base ok v xs) : Kd.S d e w base (fun k => ok k ∧ k < n) v xs := Kd.S_mono (Kd.S_bound h) (fun k hk => ⟨hk.1, by have := hk.2.2.1; omega⟩)
theorem R_ltz (hz : n = w.heap.size) (h : Kd.R d e w base ok v xs) : Kd.R d e w base (fun k => ok k ∧ k < n) v xs := Kd.R_mono (Kd.R_bound h) (fun k hk => ⟨hk.1, by have := hk.2.2.1; omega⟩)
theorem S_gez (hz : n = W.heap.size) (h : Kd.S d e w W.heap.size ok v xs) : Kd.S d e w W.heap.size (fun k => ok k ∧ n ≤ k) v xs := Kd.S_mono (Kd.S_bound h) (fun k hk => ⟨hk.1, by have := hk.2.1; omega⟩)
theorem R_gez (hz : n = W.heap.size) (h : Kd.R d e w W.heap.size ok v xs) : Kd.R d e w W.heap.size (fun k => ok k ∧ n ≤ k) v xs := Kd.R_mono (Kd.R_bound h) (fun k hk => ⟨hk.1, by have := hk.2.1; omega⟩)
theorem S_name (_h : Kd.S d e w W.heap.size ok v xs) : ∃ n, n = W.heap.size := ⟨_, rfl⟩
theorem R_name (_h : Kd.R d e w W.heap.size ok v xs) : ∃ n, n = W.heap.size := ⟨_, rfl⟩
theorem S_fp (h : Kd.S d e w base ok v xs) : ∃ P : Nat → Prop, Kd.S d e w base P v xs ∧ ∀ k, P k → ok k ∧ base ≤ k ∧ ∃ q, q ∈ e :: d.E ∧ ∃ cells, w.heap[k]? = some (.cells cells q (0, 0)) := ⟨_, Kd.S_bound h, fun _ hk => ⟨hk.1, hk.2.1, hk.2.2.2⟩⟩
theorem R_fp (h : Kd.R d e w base ok v xs) : ∃ P : Nat → Prop, Kd.R d e w base P v xs ∧ ∀ k, P k → ok k ∧ base ≤ k ∧ ∃ q, q ∈ e :: d.E ∧ ∃ cells, w.heap[k]? = some (.cells cells q (0, 0)) := ⟨_, Kd.R_bound h, fun _ hk => ⟨hk.1, hk.2.1, hk.2.2.2⟩⟩
theorem R_fpt (hE : d.E = []) (h : Kd.R d e w base ok v xs) : ∃ P : Nat → Prop, Kd.R d e w base P v xs ∧ ∀ k, P k → (ok k ∧ some k = v.ownBlock) ∧ base ≤ k ∧ ∃ q, q ∈ e :: d.E ∧ ∃ cells, w.heap[k]? = some (.cells cells q (0, 0)) :=
  ⟨_, Kd.R_bound (Kd.R_tight hE h), fun k hk => ⟨⟨h.1 k hk.1.symm, hk.1⟩, hk.2.1, hk.2.2.2⟩⟩
end Kd
theorem no_blk {W : World} {g t : Nat} {cells : Array Value} {E : List Nat} (hb : W.heap[g]? = some (.cells cells t (0, 0))) (ht : ∀ q, q ∈ E → q ≠ t) (h : ∃ q, q ∈ E ∧ ∃ c, W.heap[g]? = some (.cells c q (0, 0))) : False := by
  obtain ⟨q, hq, c, hc⟩ := h
  rw [hc] at hb
  injection hb with hb
  injection hb with _ hb
  exact ht q hq hb
section
variable {α : Type} {d : Kd α} {e n cap g base : Nat} {W : World} {ok : Nat → Prop} {v : Value} {xs : List α} {x : α} {i : Int}
theorem S_begin (h : Kd.S d e W base ok v xs) (z : α) (i : Int) (h0 : 0 ≤ i) (h1 : i < (xs.length : Int)) : Kd.S d e W base ok v (xs.set i.toNat (xs.getD i.toNat z)) := by
  have hi : i.toNat < xs.length := by omega
  rw [List.getD_eq_getElem?_getD, List.getElem?_eq_getElem hi]
  simpa using h
theorem S_hand (h : Kd.S d e W base ok (.slice (some ⟨g, 0, none⟩) n cap) (xs.set i.toNat x)) (h0 : 0 ≤ i) (h1 : i < (xs.length : Int)) :
    ∃ (oki : Nat → Prop) (c : List Value), d.M W base oki x c ∧ (∀ j u, c[j]? = some u → W.cell? ⟨g, i.toNat * d.sz + j, none⟩ = some u) ∧ (∀ j, W.frozen? ⟨g, i.toNat * d.sz + j, none⟩ = false) ∧ (∀ k, oki k → ok k ∧ k ≠ g) ∧
      (∀ w1 x', Kept W w1 oki → d.M w1 base oki x' c → Kd.S d e w1 base ok (.slice (some ⟨g, 0, none⟩) n cap) (xs.set i.toNat x')) ∧
      (∀ u j x', u.oneCell' = true → j + 1 ≤ d.sz → d.M W base oki x' (c.take j ++ [u] ++ c.drop (j + 1)) → Kd.S d e (W.setCells g (i.toNat * d.sz + j) [u]) base ok (.slice (some ⟨g, 0, none⟩) n cap) (xs.set i.toNat x') ∧ W.grownBy (W.setCells g (i.toNat * d.sz + j) [u]) (some g)) := by
  have hn := (Kd.S_reads' h).1
  rw [List.length_set] at hn
  have hi : i.toNat < xs.length := by omega
  obtain ⟨oki, c, hcl, hM, hcc, hfr, hoki, hH⟩ := Kd.S_elem (Kd.S_mono (ok' := fun k => ok k ∧ ¬ False) h (fun k hk => ⟨hk, id⟩)) x i h0 (by omega)
  rw [List.getD_eq_getElem?_getD, List.getElem?_set_self hi, Option.getD_some] at hM
  refine ⟨oki, c, hM, hcc, hfr, fun k hk => ⟨(hoki k hk).1.1, (hoki k hk).2⟩, fun w1 x' hk hM1 => ?_, fun u j x' hu hj hM1 => ?_⟩
  · have h2 := Kd.H_back (Kd.H_step hH (fun k _ hn hlt => hk.2 k hlt hn)) hM1 (fun _ hk => hk)
    rw [List.set_set] at h2
    exact Kd.S_mono h2 (fun k hk => hk.1)
  · obtain ⟨h2, h3⟩ := Kd.S_seg (okg := fun _ => False) hH h0 (by omega) (seg := [u]) (j := j) hj hM1 (fun k hk => .inl hk) (fun _ hk => hk.elim)
    rw [List.set_set] at h2
    exact ⟨h2, h3⟩
end

end Go.Proofs.Yticgekgojgkbgaa.Print
end
section
namespace Go.Proofs.Yticgekgojgkbgaa.Print
open Go.RowKit Go.Proofs.YticgekgojgkbgaaV.PrintWords Go.Proofs.YticgekgojgkbgaaV.PrintLast Go.Proofs.YticgekgojgkbgaaV.PrintMore
attribute [local go_sem] max2_int min2_int max_two min_two max_three min_three max_four min_four
set_option linter.unusedVariables false
set_option linter.unusedSimpArgs false
set_option maxHeartbeats 8000000
set_option maxRecDepth 100000
def laws_szLabel.f (a0_0 : ByteArray) (a0_1 : ByteArray) (a1 : Int) : Option (Int) := if (wrap64 (a1 - (a0_0.size : Int))) < 0 then (some (-1)) else (if (wrap64 ((wrap64 (a1 - (a0_0.size : Int))) - (a0_1.size : Int))) < 0 then (some (-1)) else (some (wrap64 ((wrap64 (a1 - (a0_0.size : Int))) - (a0_1.size : Int)))))
theorem laws_szLabel.calls (a0_0 : ByteArray) (a0_1 : ByteArray) (a1 : Int) (r : Int) (w : World) (h : laws_szLabel.f a0_0 a0_1 a1 = some r) :
  Calls Try.prog 55 #[.agg #[.string a0_0, .string a0_1], .int .i64 a1] w fun e w' => e = .returned (.int .i64 r) ∧ Below w.heap.size w w' := by
 have hu85 := Try.underlying85
 have HB := Aside0.mk (Below.refl w.heap.size w)
 have H : (if (wrap64 (a1 - (a0_0.size : Int))) < 0 then (some (-1)) else (if (wrap64 ((wrap64 (a1 - (a0_0.size : Int))) - (a0_1.size : Int))) < 0 then (some (-1)) else (some (wrap64 ((wrap64 (a1 - (a0_0.size : Int))) - (a0_1.size : Int)))))) = some r := h
 clear h
 by_cases c3 : (wrap64 (a1 - (a0_0.size : Int))) < 0
 ·
  rw [if_pos c3] at H
  have c3b0 := decide_eq_true c3
  clear c3
  obtain rfl := Option.some.inj H
  go_enter Try.func55, Try.ntmps55
  go_wp2_with (first | ((with_reducible refine gd_ 2 rfl ?_); refine bv_ 2 #[.string a0_0, .string a0_1] 85 ?_; intro gb101 hg w4 hbox hb; have BK101 := Aside0.mk (hbox); have GW101 := Aside0.mk ((gw_ hg (hs_ HB.out))); replace HB := st_ HB hb; have GE101 := Ge_.mk GW101.out; clear hb hbox hg; obtain ⟨z5_0, z5_1, y5_0, y5_1⟩ := bc2_ BK101.out))
  go_ret
  exact an_ (by exact hs_ HB.out)
 rw [if_neg c3] at H
 have c3b0 : decide ((wrap64 (a1 - (a0_0.size : Int))) < 0) = false := decide_eq_false c3
 clear c3
 by_cases c6 : (wrap64 ((wrap64 (a1 - (a0_0.size : Int))) - (a0_1.size : Int))) < 0
 ·
  rw [if_pos c6] at H
  have c6b0 := decide_eq_true c6
  clear c6
  obtain rfl := Option.some.inj H
  go_enter Try.func55, Try.ntmps55
  go_wp2_with (first | ((with_reducible refine gd_ 2 rfl ?_); refine bv_ 2 #[.string a0_0, .string a0_1] 85 ?_; intro gb101 hg w7 hbox hb; have BK101 := Aside0.mk (hbox); have GW101 := Aside0.mk ((gw_ hg (hs_ HB.out))); replace HB := st_ HB hb; have GE101 := Ge_.mk GW101.out; clear hb hbox hg; obtain ⟨z8_0, z8_1, y8_0, y8_1⟩ := bc2_ BK101.out))
  go_ret
  exact an_ (by exact hs_ HB.out)
 rw [if_neg c6] at H
 have c6b0 : decide ((wrap64 ((wrap64 (a1 - (a0_0.size : Int))) - (a0_1.size : Int))) < 0) = false := decide_eq_false c6
 clear c6
 obtain rfl := Option.some.inj H
 go_enter Try.func55, Try.ntmps55
 go_wp2_with (first | ((with_reducible refine gd_ 2 rfl ?_); refine bv_ 2 #[.string a0_0, .string a0_1] 85 ?_; intro gb101 hg w9 hbox hb; have BK101 := Aside0.mk (hbox); have GW101 := Aside0.mk ((gw_ hg (hs_ HB.out))); replace HB := st_ HB hb; have GE101 := Ge_.mk GW101.out; clear hb hbox hg; obtain ⟨z10_0, z10_1, y10_0, y10_1⟩ := bc2_ BK101.out))
 go_ret
 exact an_ (by exact hs_ HB.out)
def laws_szLabelS.l0 : Nat → List (S85) → Int → Int → Option (Int)
 | 0, _, _, _ => none
 | k + 1, x0, x1, x5 => if x5 < (x0.length : Int) then (if 0 ≤ x5 then ((laws_szLabel.f ((rd_T85 x0 x5).f0) ((rd_T85 x0 x5).f1) x1).bind fun t103 => (if t103 < 0 then (some (-1)) else (laws_szLabelS.l0 k x0 t103 (wrap64 (x5 + 1))))) else (none)) else (some x1)
def laws_szLabelS.f (k : Nat) (l0 : List (S85)) (a1 : Int) : Option (Int) := if (wrap64 (a1 - (l0.length : Int))) < 0 then (some (-1)) else (laws_szLabelS.l0 k l0 (wrap64 (a1 - (l0.length : Int))) 0)
theorem laws_szLabelS.mono_l : ∀ k, (∀ y0 y1 y2, LeO (laws_szLabelS.l0 k y0 y1 y2) (laws_szLabelS.l0 (k + 1) y0 y1 y2))
 | 0 => fun _ _ _ r h => by simp [laws_szLabelS.l0] at h
 | k + 1 => by
  have ih0 := laws_szLabelS.mono_l k
  intro y0 y1 y2
  unfold laws_szLabelS.l0
  repeat' first
  | (with_reducible exact ih0 _ _ _)
  | (with_reducible exact LeO.refl _)
  | (with_reducible exact LeO.none _)
  | (with_reducible refine LeO.ite ?_ ?_)
  | (with_reducible refine LeO.bind ?_ (fun _ => ?_))
  | exact ih0 _ _ _
theorem laws_szLabelS.mono : ∀ a0 a1 k, LeO (laws_szLabelS.f k a0 a1) (laws_szLabelS.f (k + 1) a0 a1) := by
 intro a0 a1 k
 have ih0 := laws_szLabelS.mono_l k
 unfold laws_szLabelS.f
 repeat' first | (with_reducible first | exact ih0 _ _ _ | exact LeO.refl _ | exact LeO.none _ | refine LeO.ite ?_ ?_ | refine LeO.bind ?_ (fun _ => ?_)) | exact ih0 _ _ _
theorem laws_szLabelS.calls (k : Nat) (A0 : Option Addr) (c0 : Nat) (l0 : List (S85)) (a1 : Int) (r : Int) (w : World) (hr0 : Kd.C k85 w A0 l0.length l0) (hc0 : l0.length ≤ c0) (h : laws_szLabelS.f k l0 a1 = some r) :
  Calls Try.prog 13 #[.slice A0 l0.length c0, .int .i64 a1] w fun e w' => e = .returned (.int .i64 r) ∧ Below w.heap.size w w' := by
 have hu85 := Try.underlying85
 have HR0 := Aside0.mk hr0
 have HC0 := Aside0.mk hc0
 clear hr0 hc0
 have HB := Aside0.mk (Below.refl w.heap.size w)
 have H : (if (wrap64 (a1 - (l0.length : Int))) < 0 then (some (-1)) else (laws_szLabelS.l0 k l0 (wrap64 (a1 - (l0.length : Int))) 0)) = some r := h
 clear h
 by_cases c3 : (wrap64 (a1 - (l0.length : Int))) < 0
 ·
  rw [if_pos c3] at H
  have c3b0 := decide_eq_true c3
  clear c3
  obtain rfl := Option.some.inj H
  go_enter Try.func13, Try.ntmps13
  go_wp2
  go_ret
  exact an_ (by exact hs_ HB.out)
 rw [if_neg c3] at H
 have c3b0 : decide ((wrap64 (a1 - (l0.length : Int))) < 0) = false := decide_eq_false c3
 clear c3
 have H' := Aside0.mk H
 clear H
 go_enter Try.func13, Try.ntmps13
 go_wp2
 go_loopg [1, 5] k (fun kq v1 v5 w' => ∃ (x1_1 : Int) (x5_1 : Int), v1 = .int .i64 x1_1 ∧ v5 = .int .i64 x5_1 ∧ Aside0 (laws_szLabelS.l0 kq l0 x1_1 x5_1 = some r) ∧ Aside0 (kq ≤ k) ∧ Aside0 (Below w.heap.size w w'))
 case atStart => exact ⟨(wrap64 (a1 - (l0.length : Int))), (0), (by first | rfl | (simp; done) | (simp [*]; done)), (by first | rfl | (simp; done) | (simp [*]; done)), H', ⟨Nat.le_refl _⟩, ⟨by exact hs_ HB.out⟩⟩
 case round =>
  clear H'
  try clear c1
  try clear p2
  try clear c3
  try clear c3b0
  obtain ⟨x1_1, x5_1, rfl, rfl, HA, HK1, HB⟩ := hrel
  cases gk with
  | zero => exact absurd HA.out (by simp [laws_szLabelS.l0])
  | succ k1 =>
   have H := HA.out
   clear HA
   simp only [laws_szLabelS.l0] at H
   by_cases c4 : x5_1 < (l0.length : Int)
   ·
    rw [if_pos c4] at H
    have c4b0 := decide_eq_true c4
    clear c4
    by_cases c5 : 0 ≤ x5_1
    ·
     rw [if_pos c5] at H
     have c5b0 := decide_eq_true c5
     clear c5
     replace H := Option.bind_eq_some_iff.mp H
     obtain ⟨t103, A60, H⟩ := H
     have A6 := Aside0.mk A60
     clear A60
     by_cases c7 : t103 < 0
     ·
      rw [if_pos c7] at H
      have c7b0 := decide_eq_true c7
      clear c7
      obtain rfl := Option.some.inj H
      have p102 : 0 ≤ (x5_1 : Int) := of_decide_eq_true (by with_reducible assumption)
      have q102 : x5_1 < (l0.length : Int) := of_decide_eq_true (by with_reducible assumption)
      obtain ⟨ad102, e102, hx102_0, hx102_1⟩ := at_T85 HR0.out x5_1 p102 q102
      cases e102
      replace hx102_0 := cl_ HB.out hx102_0
      replace hx102_1 := cl_ HB.out hx102_1
      replace p102 := eq_true p102
      replace q102 := eq_true q102
      go_wp2_with (first | ((with_reducible refine gate_callee (f := 55) rfl ?_); refine gl_ (some 23) Try.func55 #[.agg #[.string ((rd_T85 l0 x5_1).f0), .string ((rd_T85 l0 x5_1).f1)], .int .i64 x1_1] ?_; (with_reducible refine (laws_szLabel.calls ((rd_T85 l0 x5_1).f0) ((rd_T85 l0 x5_1).f1) x1_1 t103 _ A6.out).mono ?_); rintro e w8 ⟨rfl, hb⟩; refine ⟨_, rfl, ?_⟩; replace HB := st_ HB hb; (try clear hb); (try clear hk)))
      go_ret
      exact an_ (by exact hs_ HB.out)
     rw [if_neg c7] at H
     have c7b0 : decide (t103 < 0) = false := decide_eq_false c7
     clear c7
     have H' := Aside0.mk H
     clear H
     have p102 : 0 ≤ (x5_1 : Int) := of_decide_eq_true (by with_reducible assumption)
     have q102 : x5_1 < (l0.length : Int) := of_decide_eq_true (by with_reducible assumption)
     obtain ⟨ad102, e102, hx102_0, hx102_1⟩ := at_T85 HR0.out x5_1 p102 q102
     cases e102
     replace hx102_0 := cl_ HB.out hx102_0
     replace hx102_1 := cl_ HB.out hx102_1
     replace p102 := eq_true p102
     replace q102 := eq_true q102
     go_wp2_with (first | ((with_reducible refine gate_callee (f := 55) rfl ?_); refine gl_ (some 23) Try.func55 #[.agg #[.string ((rd_T85 l0 x5_1).f0), .string ((rd_T85 l0 x5_1).f1)], .int .i64 x1_1] ?_; (with_reducible refine (laws_szLabel.calls ((rd_T85 l0 x5_1).f0) ((rd_T85 l0 x5_1).f1) x1_1 t103 _ A6.out).mono ?_); rintro e w9 ⟨rfl, hb⟩; refine ⟨_, rfl, ?_⟩; replace HB := st_ HB hb; (try clear hb); (try clear hk)))
     go_roundg k1
     case measure => have := HK1.out; omega
     case rel => exact ⟨(t103), (wrap64 (x5_1 + 1)), (by first | rfl | (simp; done) | (simp [*]; done)), (by first | rfl | (simp; done) | (simp [*]; done)), H', ⟨by have := HK1.out; omega⟩, ⟨by exact hs_ HB.out⟩⟩
    rw [if_neg c5] at H
    exact absurd H (by simp)
   rw [if_neg c4] at H
   have c4b0 : decide (x5_1 < (l0.length : Int)) = false := decide_eq_false c4
   clear c4
   obtain rfl := Option.some.inj H
   go_wp2
   go_ret
   exact an_ (by exact hs_ HB.out)
def laws_szAlarm.f (k : Nat) (l0_0 : List (S85)) (a0_1 : Int) (a0_2 : Int) (a0_3 : ByteArray) (a1 : Int) : Option (Int) := (laws_szLabelS.f k l0_0 a1).bind fun t105 => (if t105 < 0 then (some (-1)) else (if (wrap64 (t105 - (a0_3.size : Int))) < 0 then (some (-1)) else (some (wrap64 (t105 - (a0_3.size : Int))))))
theorem laws_szAlarm.mono : ∀ a0 a1 a2 a3 a4 k, LeO (laws_szAlarm.f k a0 a1 a2 a3 a4) (laws_szAlarm.f (k + 1) a0 a1 a2 a3 a4) := by
 intro a0 a1 a2 a3 a4 k
 unfold laws_szAlarm.f
 repeat' first | (with_reducible first | exact laws_szLabelS.mono _ _ _ | exact LeO.refl _ | exact LeO.none _ | refine LeO.ite ?_ ?_ | refine LeO.bind ?_ (fun _ => ?_)) | exact laws_szLabelS.mono _ _ _
theorem laws_szAlarm.calls (k : Nat) (A0_0 : Option Addr) (c0_0 : Nat) (l0_0 : List (S85)) (a0_1 : Int) (a0_2 : Int) (a0_3 : ByteArray) (a1 : Int) (r : Int) (w : World) (hr0_0 : Kd.C k85 w A0_0 l0_0.length l0_0) (hc0_0 : l0_0.length ≤ c0_0) (h : laws_szAlarm.f k l0_0 a0_1 a0_2 a0_3 a1 = some r) :
  Calls Try.prog 42 #[.agg #[.slice A0_0 l0_0.length c0_0, .int .i64 a0_1, .int .i64 a0_2, .string a0_3], .int .i64 a1] w fun e w' => e = .returned (.int .i64 r) ∧ Below w.heap.size w w' := by
 have hu35 := Try.underlying35
 have HR0_0 := Aside0.mk hr0_0
 have HC0_0 := Aside0.mk hc0_0
 clear hr0_0 hc0_0
 have HB := Aside0.mk (Below.refl w.heap.size w)
 have H : ((laws_szLabelS.f k l0_0 a1).bind fun t105 => (if t105 < 0 then (some (-1)) else (if (wrap64 (t105 - (a0_3.size : Int))) < 0 then (some (-1)) else (some (wrap64 (t105 - (a0_3.size : Int))))))) = some r := h
 clear h
 replace H := Option.bind_eq_some_iff.mp H
 obtain ⟨t105, A30, H⟩ := H
 have A3 := Aside0.mk A30
 clear A30
 by_cases c4 : t105 < 0
 ·
  rw [if_pos c4] at H
  have c4b0 := decide_eq_true c4
  clear c4
  obtain rfl := Option.some.inj H
  go_enter Try.func42, Try.ntmps42
  go_wp2_with (first | ((with_reducible refine gd_ 2 rfl ?_); refine bv_ 2 #[.slice A0_0 l0_0.length c0_0, .int .i64 a0_1, .int .i64 a0_2, .string a0_3] 35 ?_; intro gb104 hg w5 hbox hb; have BK104 := Aside0.mk (hbox); have GW104 := Aside0.mk ((gw_ hg (hs_ HB.out))); replace HB := st_ HB hb; have GE104 := Ge_.mk GW104.out; clear hb hbox hg; obtain ⟨z6_0, z6_1, z6_2, z6_3, y6_0, y6_1, y6_2, y6_3⟩ := bc4_ BK104.out) | ((with_reducible refine gate_callee (f := 13) rfl ?_); refine gl_ (some 8) Try.func13 #[.slice A0_0 l0_0.length c0_0, .int .i64 a1] ?_; (with_reducible refine (laws_szLabelS.calls k _ _ l0_0 a1 t105 _ ?side1 ?side2 A3.out).mono ?_); (case side1 => exact cp_ ((Kd.C_below HR0_0.out HB.out))); (case side2 => exact HC0_0.out); rintro e w7 ⟨rfl, hb⟩; refine ⟨_, rfl, ?_⟩; replace BK104 := bk2_ BK104 hb; replace HB := st_ HB hb; (try clear hb); (try clear hk)))
  go_ret
  exact an_ (by exact hs_ HB.out)
 rw [if_neg c4] at H
 have c4b0 : decide (t105 < 0) = false := decide_eq_false c4
 clear c4
 by_cases c8 : (wrap64 (t105 - (a0_3.size : Int))) < 0
 ·
  rw [if_pos c8] at H
  have c8b0 := decide_eq_true c8
  clear c8
  obtain rfl := Option.some.inj H
  go_enter Try.func42, Try.ntmps42
  go_wp2_with (first | ((with_reducible refine gd_ 2 rfl ?_); refine bv_ 2 #[.slice A0_0 l0_0.length c0_0, .int .i64 a0_1, .int .i64 a0_2, .string a0_3] 35 ?_; intro gb104 hg w9 hbox hb; have BK104 := Aside0.mk (hbox); have GW104 := Aside0.mk ((gw_ hg (hs_ HB.out))); replace HB := st_ HB hb; have GE104 := Ge_.mk GW104.out; clear hb hbox hg; obtain ⟨z10_0, z10_1, z10_2, z10_3, y10_0, y10_1, y10_2, y10_3⟩ := bc4_ BK104.out) | ((with_reducible refine gate_callee (f := 13) rfl ?_); refine gl_ (some 8) Try.func13 #[.slice A0_0 l0_0.length c0_0, .int .i64 a1] ?_; (with_reducible refine (laws_szLabelS.calls k _ _ l0_0 a1 t105 _ ?side1 ?side2 A3.out).mono ?_); (case side1 => exact cp_ ((Kd.C_below HR0_0.out HB.out))); (case side2 => exact HC0_0.out); rintro e w11 ⟨rfl, hb⟩; refine ⟨_, rfl, ?_⟩; replace BK104 := bk2_ BK104 hb; replace HB := st_ HB hb; (try clear hb); (try clear hk); obtain ⟨z12_0, z12_1, z12_2, z12_3, y12_0, y12_1, y12_2, y12_3⟩ := bc4_ BK104.out))
  go_ret
  exact an_ (by exact hs_ HB.out)
 rw [if_neg c8] at H
 have c8b0 : decide ((wrap64 (t105 - (a0_3.size : Int))) < 0) = false := decide_eq_false c8
 clear c8
 obtain rfl := Option.some.inj H
 go_enter Try.func42, Try.ntmps42
 go_wp2_with (first | ((with_reducible refine gd_ 2 rfl ?_); refine bv_ 2 #[.slice A0_0 l0_0.length c0_0, .int .i64 a0_1, .int .i64 a0_2, .string a0_3] 35 ?_; intro gb104 hg w13 hbox hb; have BK104 := Aside0.mk (hbox); have GW104 := Aside0.mk ((gw_ hg (hs_ HB.out))); replace HB := st_ HB hb; have GE104 := Ge_.mk GW104.out; clear hb hbox hg; obtain ⟨z14_0, z14_1, z14_2, z14_3, y14_0, y14_1, y14_2, y14_3⟩ := bc4_ BK104.out) | ((with_reducible refine gate_callee (f := 13) rfl ?_); refine gl_ (some 8) Try.func13 #[.slice A0_0 l0_0.length c0_0, .int .i64 a1] ?_; (with_reducible refine (laws_szLabelS.calls k _ _ l0_0 a1 t105 _ ?side1 ?side2 A3.out).mono ?_); (case side1 => exact cp_ ((Kd.C_below HR0_0.out HB.out))); (case side2 => exact HC0_0.out); rintro e w15 ⟨rfl, hb⟩; refine ⟨_, rfl, ?_⟩; replace BK104 := bk2_ BK104 hb; replace HB := st_ HB hb; (try clear hb); (try clear hk); obtain ⟨z16_0, z16_1, z16_2, z16_3, y16_0, y16_1, y16_2, y16_3⟩ := bc4_ BK104.out))
 go_ret
 exact an_ (by exact hs_ HB.out)
def laws_szAlarmS.l0 : Nat → List (S35) → Int → Int → Option (Int)
 | 0, _, _, _ => none
 | k + 1, x0, x1, x5 => if x5 < (x0.length : Int) then (if 0 ≤ x5 then ((laws_szAlarm.f k ((rd_T35 x0 x5).f0) ((rd_T35 x0 x5).f1) ((rd_T35 x0 x5).f2) ((rd_T35 x0 x5).f3) x1).bind fun t107 => (if t107 < 0 then (some (-1)) else (laws_szAlarmS.l0 k x0 t107 (wrap64 (x5 + 1))))) else (none)) else (some x1)
def laws_szAlarmS.f (k : Nat) (l0 : List (S35)) (a1 : Int) : Option (Int) := if (wrap64 (a1 - (l0.length : Int))) < 0 then (some (-1)) else (laws_szAlarmS.l0 k l0 (wrap64 (a1 - (l0.length : Int))) 0)
theorem laws_szAlarmS.mono_l : ∀ k, (∀ y0 y1 y2, LeO (laws_szAlarmS.l0 k y0 y1 y2) (laws_szAlarmS.l0 (k + 1) y0 y1 y2))
 | 0 => fun _ _ _ r h => by simp [laws_szAlarmS.l0] at h
 | k + 1 => by
  have ih0 := laws_szAlarmS.mono_l k
  intro y0 y1 y2
  unfold laws_szAlarmS.l0
  repeat' first
  | (with_reducible exact ih0 _ _ _)
  | (with_reducible exact laws_szAlarm.mono _ _ _ _ _ _)
  | (with_reducible exact LeO.refl _)
  | (with_reducible exact LeO.none _)
  | (with_reducible refine LeO.ite ?_ ?_)
  | (with_reducible refine LeO.bind ?_ (fun _ => ?_))
  | exact ih0 _ _ _
  | exact laws_szAlarm.mono _ _ _ _ _ _
theorem laws_szAlarmS.mono : ∀ a0 a1 k, LeO (laws_szAlarmS.f k a0 a1) (laws_szAlarmS.f (k + 1) a0 a1) := by
 intro a0 a1 k
 have ih0 := laws_szAlarmS.mono_l k
 unfold laws_szAlarmS.f
 repeat' first | (with_reducible first | exact ih0 _ _ _ | exact laws_szAlarm.mono _ _ _ _ _ _ | exact LeO.refl _ | exact LeO.none _ | refine LeO.ite ?_ ?_ | refine LeO.bind ?_ (fun _ => ?_)) | exact ih0 _ _ _ | exact laws_szAlarm.mono _ _ _ _ _ _
theorem laws_szAlarmS.calls (k : Nat) (A0 : Option Addr) (c0 : Nat) (l0 : List (S35)) (a1 : Int) (r : Int) (w : World) (hr0 : Kd.C k35 w A0 l0.length l0) (hc0 : l0.length ≤ c0) (h : laws_szAlarmS.f k l0 a1 = some r) :
  Calls Try.prog 63 #[.slice A0 l0.length c0, .int .i64 a1] w fun e w' => e = .returned (.int .i64 r) ∧ Below w.heap.size w w' := by
 have hu35 := Try.underlying35
 have HR0 := Aside0.mk hr0
 have HC0 := Aside0.mk hc0
 clear hr0 hc0
 have HB := Aside0.mk (Below.refl w.heap.size w)
 have H : (if (wrap64 (a1 - (l0.length : Int))) < 0 then (some (-1)) else (laws_szAlarmS.l0 k l0 (wrap64 (a1 - (l0.length : Int))) 0)) = some r := h
 clear h
 by_cases c3 : (wrap64 (a1 - (l0.length : Int))) < 0
 ·
  rw [if_pos c3] at H
  have c3b0 := decide_eq_true c3
  clear c3
  obtain rfl := Option.some.inj H
  go_enter Try.func63, Try.ntmps63
  go_wp2
  go_ret
  exact an_ (by exact hs_ HB.out)
 rw [if_neg c3] at H
 have c3b0 : decide ((wrap64 (a1 - (l0.length : Int))) < 0) = false := decide_eq_false c3
 clear c3
 have H' := Aside0.mk H
 clear H
 go_enter Try.func63, Try.ntmps63
 go_wp2
 go_loopg [1, 5] k (fun kq v1 v5 w' => ∃ (x1_1 : Int) (x5_1 : Int), v1 = .int .i64 x1_1 ∧ v5 = .int .i64 x5_1 ∧ Aside0 (laws_szAlarmS.l0 kq l0 x1_1 x5_1 = some r) ∧ Aside0 (kq ≤ k) ∧ Aside0 (Below w.heap.size w w'))
 case atStart => exact ⟨(wrap64 (a1 - (l0.length : Int))), (0), (by first | rfl | (simp; done) | (simp [*]; done)), (by first | rfl | (simp; done) | (simp [*]; done)), H', ⟨Nat.le_refl _⟩, ⟨by exact hs_ HB.out⟩⟩
 case round =>
  clear H'
  try clear p2
  try clear c3
  try clear c3b0
  obtain ⟨x1_1, x5_1, rfl, rfl, HA, HK1, HB⟩ := hrel
  cases gk with
  | zero => exact absurd HA.out (by simp [laws_szAlarmS.l0])
  | succ k1 =>
   have H := HA.out
   clear HA
   simp only [laws_szAlarmS.l0] at H
   by_cases c4 : x5_1 < (l0.length : Int)
   ·
    rw [if_pos c4] at H
    have c4b0 := decide_eq_true c4
    clear c4
    by_cases c5 : 0 ≤ x5_1
    ·
     rw [if_pos c5] at H
     have c5b0 := decide_eq_true c5
     clear c5
     replace H := Option.bind_eq_some_iff.mp H
     obtain ⟨t107, A60, H⟩ := H
     have A6 := Aside0.mk A60
     clear A60
     by_cases c7 : t107 < 0
     ·
      rw [if_pos c7] at H
      have c7b0 := decide_eq_true c7
      clear c7
      obtain rfl := Option.some.inj H
      have p106 : 0 ≤ (x5_1 : Int) := of_decide_eq_true (by with_reducible assumption)
      have q106 : x5_1 < (l0.length : Int) := of_decide_eq_true (by with_reducible assumption)
      obtain ⟨ad106, A106_0, c106_0, e106, hx106_0, hx106_1, hx106_2, hx106_3, hl106_0, hi106_0⟩ := at_T35 HR0.out x5_1 p106 q106
      cases e106
      replace hx106_0 := cl_ HB.out hx106_0
      replace hx106_1 := cl_ HB.out hx106_1
      replace hx106_2 := cl_ HB.out hx106_2
      replace hx106_3 := cl_ HB.out hx106_3
      have HR106_0 := Aside0.mk hi106_0
      have HC106_0 := Aside0.mk hl106_0
      clear hi106_0 hl106_0
      replace p106 := eq_true p106
      replace q106 := eq_true q106
      go_wp2_with (first | ((with_reducible refine gate_callee (f := 42) rfl ?_); refine gl_ (some 23) Try.func42 #[.agg #[.slice A106_0 ((rd_T35 l0 x5_1).f0).length c106_0, .int .i64 ((rd_T35 l0 x5_1).f1), .int .i64 ((rd_T35 l0 x5_1).f2), .string ((rd_T35 l0 x5_1).f3)], .int .i64 x1_1] ?_; (with_reducible refine (laws_szAlarm.calls k1 _ _ ((rd_T35 l0 x5_1).f0) ((rd_T35 l0 x5_1).f1) ((rd_T35 l0 x5_1).f2) ((rd_T35 l0 x5_1).f3) x1_1 t107 _ ?side1 ?side2 A6.out).mono ?_); (case side1 => exact cp_ ((Kd.C_below HR106_0.out HB.out))); (case side2 => exact HC106_0.out); rintro e w8 ⟨rfl, hb⟩; refine ⟨_, rfl, ?_⟩; replace HB := st_ HB hb; (try clear hb); (try clear hk)))
      go_ret
      exact an_ (by exact hs_ HB.out)
     rw [if_neg c7] at H
     have c7b0 : decide (t107 < 0) = false := decide_eq_false c7
     clear c7
     have H' := Aside0.mk H
     clear H
     have p106 : 0 ≤ (x5_1 : Int) := of_decide_eq_true (by with_reducible assumption)
     have q106 : x5_1 < (l0.length : Int) := of_decide_eq_true (by with_reducible assumption)
     obtain ⟨ad106, A106_0, c106_0, e106, hx106_0, hx106_1, hx106_2, hx106_3, hl106_0, hi106_0⟩ := at_T35 HR0.out x5_1 p106 q106
     cases e106
     replace hx106_0 := cl_ HB.out hx106_0
     replace hx106_1 := cl_ HB.out hx106_1
     replace hx106_2 := cl_ HB.out hx106_2
     replace hx106_3 := cl_ HB.out hx106_3
     have HR106_0 := Aside0.mk hi106_0
     have HC106_0 := Aside0.mk hl106_0
     clear hi106_0 hl106_0
     replace p106 := eq_true p106
     replace q106 := eq_true q106
     go_wp2_with (first | ((with_reducible refine gate_callee (f := 42) rfl ?_); refine gl_ (some 23) Try.func42 #[.agg #[.slice A106_0 ((rd_T35 l0 x5_1).f0).length c106_0, .int .i64 ((rd_T35 l0 x5_1).f1), .int .i64 ((rd_T35 l0 x5_1).f2), .string ((rd_T35 l0 x5_1).f3)], .int .i64 x1_1] ?_; (with_reducible refine (laws_szAlarm.calls k1 _ _ ((rd_T35 l0 x5_1).f0) ((rd_T35 l0 x5_1).f1) ((rd_T35 l0 x5_1).f2) ((rd_T35 l0 x5_1).f3) x1_1 t107 _ ?side1 ?side2 A6.out).mono ?_); (case side1 => exact cp_ ((Kd.C_below HR106_0.out HB.out))); (case side2 => exact HC106_0.out); rintro e w9 ⟨rfl, hb⟩; refine ⟨_, rfl, ?_⟩; replace HB := st_ HB hb; (try clear hb); (try clear hk)))
     go_roundg k1
     case measure => have := HK1.out; omega
     case rel => exact ⟨(t107), (wrap64 (x5_1 + 1)), (by first | rfl | (simp; done) | (simp [*]; done)), (by first | rfl | (simp; done) | (simp [*]; done)), H', ⟨by have := HK1.out; omega⟩, ⟨by exact hs_ HB.out⟩⟩
    rw [if_neg c5] at H
    exact absurd H (by simp)
   rw [if_neg c4] at H
   have c4b0 : decide (x5_1 < (l0.length : Int)) = false := decide_eq_false c4
   clear c4
   obtain rfl := Option.some.inj H
   go_wp2
   go_ret
   exact an_ (by exact hs_ HB.out)
def laws_szChain.f (k : Nat) (a0_0 : Int) (l0_1 : List (S35)) (a1 : Int) : Option (Int) := (laws_szAlarmS.f k l0_1 a1).bind fun t109 => (if t109 < 0 then (some (-1)) else (some t109))
theorem laws_szChain.mono : ∀ a0 a1 a2 k, LeO (laws_szChain.f k a0 a1 a2) (laws_szChain.f (k + 1) a0 a1 a2) := by
 intro a0 a1 a2 k
 unfold laws_szChain.f
 repeat' first | (with_reducible first | exact laws_szAlarmS.mono _ _ _ | exact LeO.refl _ | exact LeO.none _ | refine LeO.ite ?_ ?_ | refine LeO.bind ?_ (fun _ => ?_)) | exact laws_szAlarmS.mono _ _ _
theorem laws_szChain.calls (k : Nat) (a0_0 : Int) (A0_1 : Option Addr) (c0_1 : Nat) (l0_1 : List (S35)) (a1 : Int) (r : Int) (w : World) (hr0_1 : Kd.C k35 w A0_1 l0_1.length l0_1) (hc0_1 : l0_1.length ≤ c0_1) (h : laws_szChain.f k a0_0 l0_1 a1 = some r) :
  Calls Try.prog 99 #[.agg #[.int .i64 a0_0, .slice A0_1 l0_1.length c0_1], .int .i64 a1] w fun e w' => e = .returned (.int .i64 r) ∧ Below w.heap.size w w' := by
 have hu119 := Try.underlying119
 have HR0_1 := Aside0.mk hr0_1
 have HC0_1 := Aside0.mk hc0_1
 clear hr0_1 hc0_1
 have HB := Aside0.mk (Below.refl w.heap.size w)
 have H : ((laws_szAlarmS.f k l0_1 a1).bind fun t109 => (if t109 < 0 then (some (-1)) else (some t109))) = some r := h
 clear h
 replace H := Option.bind_eq_some_iff.mp H
 obtain ⟨t109, A30, H⟩ := H
 have A3 := Aside0.mk A30
 clear A30
 by_cases c4 : t109 < 0
 ·
  rw [if_pos c4] at H
  have c4b0 := decide_eq_true c4
  clear c4
  obtain rfl := Option.some.inj H
  go_enter Try.func99, Try.ntmps99
  go_wp2_with (first | ((with_reducible refine gd_ 2 rfl ?_); refine bv_ 2 #[.int .i64 a0_0, .slice A0_1 l0_1.length c0_1] 119 ?_; intro gb108 hg w5 hbox hb; have BK108 := Aside0.mk (hbox); have GW108 := Aside0.mk ((gw_ hg (hs_ HB.out))); replace HB := st_ HB hb; have GE108 := Ge_.mk GW108.out; clear hb hbox hg; obtain ⟨z6_0, z6_1, y6_0, y6_1⟩ := bc2_ BK108.out) | ((with_reducible refine gate_callee (f := 63) rfl ?_); refine gl_ (some 8) Try.func63 #[.slice A0_1 l0_1.length c0_1, .int .i64 a1] ?_; (with_reducible refine (laws_szAlarmS.calls k _ _ l0_1 a1 t109 _ ?side1 ?side2 A3.out).mono ?_); (case side1 => exact cp_ ((Kd.C_below HR0_1.out HB.out))); (case side2 => exact HC0_1.out); rintro e w7 ⟨rfl, hb⟩; refine ⟨_, rfl, ?_⟩; replace BK108 := bk2_ BK108 hb; replace HB := st_ HB hb; (try clear hb); (try clear hk)))
  go_ret
  exact an_ (by exact hs_ HB.out)
 rw [if_neg c4] at H
 have c4b0 : decide (t109 < 0) = false := decide_eq_false c4
 clear c4
 obtain rfl := Option.some.inj H
 go_enter Try.func99, Try.ntmps99
 go_wp2_with (first | ((with_reducible refine gd_ 2 rfl ?_); refine bv_ 2 #[.int .i64 a0_0, .slice A0_1 l0_1.length c0_1] 119 ?_; intro gb108 hg w8 hbox hb; have BK108 := Aside0.mk (hbox); have GW108 := Aside0.mk ((gw_ hg (hs_ HB.out))); replace HB := st_ HB hb; have GE108 := Ge_.mk GW108.out; clear hb hbox hg; obtain ⟨z9_0, z9_1, y9_0, y9_1⟩ := bc2_ BK108.out) | ((with_reducible refine gate_callee (f := 63) rfl ?_); refine gl_ (some 8) Try.func63 #[.slice A0_1 l0_1.length c0_1, .int .i64 a1] ?_; (with_reducible refine (laws_szAlarmS.calls k _ _ l0_1 a1 t109 _ ?side1 ?side2 A3.out).mono ?_); (case side1 => exact cp_ ((Kd.C_below HR0_1.out HB.out))); (case side2 => exact HC0_1.out); rintro e w10 ⟨rfl, hb⟩; refine ⟨_, rfl, ?_⟩; replace BK108 := bk2_ BK108 hb; replace HB := st_ HB hb; (try clear hb); (try clear hk)))
 go_ret
 exact an_ (by exact hs_ HB.out)
def laws_szChainS.l0 : Nat → List (S119) → Int → Int → Option (Int)
 | 0, _, _, _ => none
 | k + 1, x0, x1, x5 => if x5 < (x0.length : Int) then (if 0 ≤ x5 then ((laws_szChain.f k ((rd_T119 x0 x5).f0) ((rd_T119 x0 x5).f1) x1).bind fun t111 => (if t111 < 0 then (some (-1)) else (laws_szChainS.l0 k x0 t111 (wrap64 (x5 + 1))))) else (none)) else (some x1)
def laws_szChainS.f (k : Nat) (l0 : List (S119)) (a1 : Int) : Option (Int) := if (wrap64 (a1 - (l0.length : Int))) < 0 then (some (-1)) else (laws_szChainS.l0 k l0 (wrap64 (a1 - (l0.length : Int))) 0)
theorem laws_szChainS.mono_l : ∀ k, (∀ y0 y1 y2, LeO (laws_szChainS.l0 k y0 y1 y2) (laws_szChainS.l0 (k + 1) y0 y1 y2))
 | 0 => fun _ _ _ r h => by simp [laws_szChainS.l0] at h
 | k + 1 => by
  have ih0 := laws_szChainS.mono_l k
  intro y0 y1 y2
  unfold laws_szChainS.l0
  repeat' first
  | (with_reducible exact ih0 _ _ _)
  | (with_reducible exact laws_szChain.mono _ _ _ _)
  | (with_reducible exact LeO.refl _)
  | (with_reducible exact LeO.none _)
  | (with_reducible refine LeO.ite ?_ ?_)
  | (with_reducible refine LeO.bind ?_ (fun _ => ?_))
  | exact ih0 _ _ _
  | exact laws_szChain.mono _ _ _ _
theorem laws_szChainS.mono : ∀ a0 a1 k, LeO (laws_szChainS.f k a0 a1) (laws_szChainS.f (k + 1) a0 a1) := by
 intro a0 a1 k
 have ih0 := laws_szChainS.mono_l k
 unfold laws_szChainS.f
 repeat' first | (with_reducible first | exact ih0 _ _ _ | exact laws_szChain.mono _ _ _ _ | exact LeO.refl _ | exact LeO.none _ | refine LeO.ite ?_ ?_ | refine LeO.bind ?_ (fun _ => ?_)) | exact ih0 _ _ _ | exact laws_szChain.mono _ _ _ _
theorem laws_szChainS.calls (k : Nat) (A0 : Option Addr) (c0 : Nat) (l0 : List (S119)) (a1 : Int) (r : Int) (w : World) (hr0 : Kd.C k119 w A0 l0.length l0) (hc0 : l0.length ≤ c0) (h : laws_szChainS.f k l0 a1 = some r) :
  Calls Try.prog 68 #[.slice A0 l0.length c0, .int .i64 a1] w fun e w' => e = .returned (.int .i64 r) ∧ Below w.heap.size w w' := by
 have hu119 := Try.underlying119
 have HR0 := Aside0.mk hr0
 have HC0 := Aside0.mk hc0
 clear hr0 hc0
 have HB := Aside0.mk (Below.refl w.heap.size w)
 have H : (if (wrap64 (a1 - (l0.length : Int))) < 0 then (some (-1)) else (laws_szChainS.l0 k l0 (wrap64 (a1 - (l0.length : Int))) 0)) = some r := h
 clear h
 by_cases c3 : (wrap64 (a1 - (l0.length : Int))) < 0
 ·
  rw [if_pos c3] at H
  have c3b0 := decide_eq_true c3
  clear c3
  obtain rfl := Option.some.inj H
  go_enter Try.func68, Try.ntmps68
  go_wp2
  go_ret
  exact an_ (by exact hs_ HB.out)
 rw [if_neg c3] at H
 have c3b0 : decide ((wrap64 (a1 - (l0.length : Int))) < 0) = false := decide_eq_false c3
 clear c3
 have H' := Aside0.mk H
 clear H
 go_enter Try.func68, Try.ntmps68
 go_wp2
 go_loopg [1, 5] k (fun kq v1 v5 w' => ∃ (x1_1 : Int) (x5_1 : Int), v1 = .int .i64 x1_1 ∧ v5 = .int .i64 x5_1 ∧ Aside0 (laws_szChainS.l0 kq l0 x1_1 x5_1 = some r) ∧ Aside0 (kq ≤ k) ∧ Aside0 (Below w.heap.size w w'))
 case atStart => exact ⟨(wrap64 (a1 - (l0.length : Int))), (0), (by first | rfl | (simp; done) | (simp [*]; done)), (by first | rfl | (simp; done) | (simp [*]; done)), H', ⟨Nat.le_refl _⟩, ⟨by exact hs_ HB.out⟩⟩
 case round =>
  clear H'
  try clear p2
  try clear c3
  try clear c3b0
  obtain ⟨x1_1, x5_1, rfl, rfl, HA, HK1, HB⟩ := hrel
  cases gk with
  | zero => exact absurd HA.out (by simp [laws_szChainS.l0])
  | succ k1 =>
   have H := HA.out
   clear HA
   simp only [laws_szChainS.l0] at H
   by_cases c4 : x5_1 < (l0.length : Int)
   ·
    rw [if_pos c4] at H
    have c4b0 := decide_eq_true c4
    clear c4
    by_cases c5 : 0 ≤ x5_1
    ·
     rw [if_pos c5] at H
     have c5b0 := decide_eq_true c5
     clear c5
     replace H := Option.bind_eq_some_iff.mp H
     obtain ⟨t111, A60, H⟩ := H
     have A6 := Aside0.mk A60
     clear A60
     by_cases c7 : t111 < 0
     ·
      rw [if_pos c7] at H
      have c7b0 := decide_eq_true c7
      clear c7
      obtain rfl := Option.some.inj H
      have p110 : 0 ≤ (x5_1 : Int) := of_decide_eq_true (by with_reducible assumption)
      have q110 : x5_1 < (l0.length : Int) := of_decide_eq_true (by with_reducible assumption)
      obtain ⟨ad110, A110_1, c110_1, e110, hx110_0, hx110_1, hl110_1, hi110_1⟩ := at_T119 HR0.out x5_1 p110 q110
      cases e110
      replace hx110_0 := cl_ HB.out hx110_0
      replace hx110_1 := cl_ HB.out hx110_1
      have HR110_1 := Aside0.mk hi110_1
      have HC110_1 := Aside0.mk hl110_1
      clear hi110_1 hl110_1
      replace p110 := eq_true p110
      replace q110 := eq_true q110
      go_wp2_with (first | ((with_reducible refine gate_callee (f := 99) rfl ?_); refine gl_ (some 23) Try.func99 #[.agg #[.int .i64 ((rd_T119 l0 x5_1).f0), .slice A110_1 ((rd_T119 l0 x5_1).f1).length c110_1], .int .i64 x1_1] ?_; (with_reducible refine (laws_szChain.calls k1 ((rd_T119 l0 x5_1).f0) _ _ ((rd_T119 l0 x5_1).f1) x1_1 t111 _ ?side1 ?side2 A6.out).mono ?_); (case side1 => exact cp_ ((Kd.C_below HR110_1.out HB.out))); (case side2 => exact HC110_1.out); rintro e w8 ⟨rfl, hb⟩; refine ⟨_, rfl, ?_⟩; replace HB := st_ HB hb; (try clear hb); (try clear hk)))
      go_ret
      exact an_ (by exact hs_ HB.out)
     rw [if_neg c7] at H
     have c7b0 : decide (t111 < 0) = false := decide_eq_false c7
     clear c7
     have H' := Aside0.mk H
     clear H
     have p110 : 0 ≤ (x5_1 : Int) := of_decide_eq_true (by with_reducible assumption)
     have q110 : x5_1 < (l0.length : Int) := of_decide_eq_true (by with_reducible assumption)
     obtain ⟨ad110, A110_1, c110_1, e110, hx110_0, hx110_1, hl110_1, hi110_1⟩ := at_T119 HR0.out x5_1 p110 q110
     cases e110
     replace hx110_0 := cl_ HB.out hx110_0
     replace hx110_1 := cl_ HB.out hx110_1
     have HR110_1 := Aside0.mk hi110_1
     have HC110_1 := Aside0.mk hl110_1
     clear hi110_1 hl110_1
     replace p110 := eq_true p110
     replace q110 := eq_true q110
     go_wp2_with (first | ((with_reducible refine gate_callee (f := 99) rfl ?_); refine gl_ (some 23) Try.func99 #[.agg #[.int .i64 ((rd_T119 l0 x5_1).f0), .slice A110_1 ((rd_T119 l0 x5_1).f1).length c110_1], .int .i64 x1_1] ?_; (with_reducible refine (laws_szChain.calls k1 ((rd_T119 l0 x5_1).f0) _ _ ((rd_T119 l0 x5_1).f1) x1_1 t111 _ ?side1 ?side2 A6.out).mono ?_); (case side1 => exact cp_ ((Kd.C_below HR110_1.out HB.out))); (case side2 => exact HC110_1.out); rintro e w9 ⟨rfl, hb⟩; refine ⟨_, rfl, ?_⟩; replace HB := st_ HB hb; (try clear hb); (try clear hk)))
     go_roundg k1
     case measure => have := HK1.out; omega
     case rel => exact ⟨(t111), (wrap64 (x5_1 + 1)), (by first | rfl | (simp; done) | (simp [*]; done)), (by first | rfl | (simp; done) | (simp [*]; done)), H', ⟨by have := HK1.out; omega⟩, ⟨by exact hs_ HB.out⟩⟩
    rw [if_neg c5] at H
    exact absurd H (by simp)
   rw [if_neg c4] at H
   have c4b0 : decide (x5_1 < (l0.length : Int)) = false := decide_eq_false c4
   clear c4
   obtain rfl := Option.some.inj H
   go_wp2
   go_ret
   exact an_ (by exact hs_ HB.out)
def laws_szPart.f (k : Nat) (a0_0 : Int) (a0_1 : Int) (l0_2 : List (S119)) (a1 : Int) : Option (Int) := (laws_szChainS.f k l0_2 a1).bind fun t113 => (if t113 < 0 then (some (-1)) else (some t113))
theorem laws_szPart.mono : ∀ a0 a1 a2 a3 k, LeO (laws_szPart.f k a0 a1 a2 a3) (laws_szPart.f (k + 1) a0 a1 a2 a3) := by
 intro a0 a1 a2 a3 k
 unfold laws_szPart.f
 repeat' first | (with_reducible first | exact laws_szChainS.mono _ _ _ | exact LeO.refl _ | exact LeO.none _ | refine LeO.ite ?_ ?_ | refine LeO.bind ?_ (fun _ => ?_)) | exact laws_szChainS.mono _ _ _
theorem laws_szPart.calls (k : Nat) (a0_0 : Int) (a0_1 : Int) (A0_2 : Option Addr) (c0_2 : Nat) (l0_2 : List (S119)) (a1 : Int) (r : Int) (w : World) (hr0_2 : Kd.C k119 w A0_2 l0_2.length l0_2) (hc0_2 : l0_2.length ≤ c0_2) (h : laws_szPart.f k a0_0 a0_1 l0_2 a1 = some r) :
  Calls Try.prog 25 #[.agg #[.int .i64 a0_0, .int .i64 a0_1, .slice A0_2 l0_2.length c0_2], .int .i64 a1] w fun e w' => e = .returned (.int .i64 r) ∧ Below w.heap.size w w' := by
 have hu52 := Try.underlying52
 have HR0_2 := Aside0.mk hr0_2
 have HC0_2 := Aside0.mk hc0_2
 clear hr0_2 hc0_2
 have HB := Aside0.mk (Below.refl w.heap.size w)
 have H : ((laws_szChainS.f k l0_2 a1).bind fun t113 => (if t113 < 0 then (some (-1)) else (some t113))) = some r := h
 clear h
 replace H := Option.bind_eq_some_iff.mp H
 obtain ⟨t113, A30, H⟩ := H
 have A3 := Aside0.mk A30
 clear A30
 by_cases c4 : t113 < 0
 ·
  rw [if_pos c4] at H
  have c4b0 := decide_eq_true c4
  clear c4
  obtain rfl := Option.some.inj H
  go_enter Try.func25, Try.ntmps25
  go_wp2_with (first | ((with_reducible refine gd_ 2 rfl ?_); refine bv_ 2 #[.int .i64 a0_0, .int .i64 a0_1, .slice A0_2 l0_2.length c0_2] 52 ?_; intro gb112 hg w5 hbox hb; have BK112 := Aside0.mk (hbox); have GW112 := Aside0.mk ((gw_ hg (hs_ HB.out))); replace HB := st_ HB hb; have GE112 := Ge_.mk GW112.out; clear hb hbox hg; obtain ⟨z6_0, z6_1, z6_2, y6_0, y6_1, y6_2⟩ := bc3_ BK112.out) | ((with_reducible refine gate_callee (f := 68) rfl ?_); refine gl_ (some 8) Try.func68 #[.slice A0_2 l0_2.length c0_2, .int .i64 a1] ?_; (with_reducible refine (laws_szChainS.calls k _ _ l0_2 a1 t113 _ ?side1 ?side2 A3.out).mono ?_); (case side1 => exact cp_ ((Kd.C_below HR0_2.out HB.out))); (case side2 => exact HC0_2.out); rintro e w7 ⟨rfl, hb⟩; refine ⟨_, rfl, ?_⟩; replace BK112 := bk2_ BK112 hb; replace HB := st_ HB hb; (try clear hb); (try clear hk)))
  go_ret
  exact an_ (by exact hs_ HB.out)
 rw [if_neg c4] at H
 have c4b0 : decide (t113 < 0) = false := decide_eq_false c4
 clear c4
 obtain rfl := Option.some.inj H
 go_enter Try.func25, Try.ntmps25
 go_wp2_with (first | ((with_reducible refine gd_ 2 rfl ?_); refine bv_ 2 #[.int .i64 a0_0, .int .i64 a0_1, .slice A0_2 l0_2.length c0_2] 52 ?_; intro gb112 hg w8 hbox hb; have BK112 := Aside0.mk (hbox); have GW112 := Aside0.mk ((gw_ hg (hs_ HB.out))); replace HB := st_ HB hb; have GE112 := Ge_.mk GW112.out; clear hb hbox hg; obtain ⟨z9_0, z9_1, z9_2, y9_0, y9_1, y9_2⟩ := bc3_ BK112.out) | ((with_reducible refine gate_callee (f := 68) rfl ?_); refine gl_ (some 8) Try.func68 #[.slice A0_2 l0_2.length c0_2, .int .i64 a1] ?_; (with_reducible refine (laws_szChainS.calls k _ _ l0_2 a1 t113 _ ?side1 ?side2 A3.out).mono ?_); (case side1 => exact cp_ ((Kd.C_below HR0_2.out HB.out))); (case side2 => exact HC0_2.out); rintro e w10 ⟨rfl, hb⟩; refine ⟨_, rfl, ?_⟩; replace BK112 := bk2_ BK112 hb; replace HB := st_ HB hb; (try clear hb); (try clear hk)))
 go_ret
 exact an_ (by exact hs_ HB.out)
def laws_szPartS.l0 : Nat → List (S52) → Int → Int → Option (Int)
 | 0, _, _, _ => none
 | k + 1, x0, x1, x5 => if x5 < (x0.length : Int) then (if 0 ≤ x5 then ((laws_szPart.f k ((rd_T52 x0 x5).f0) ((rd_T52 x0 x5).f1) ((rd_T52 x0 x5).f2) x1).bind fun t115 => (if t115 < 0 then (some (-1)) else (laws_szPartS.l0 k x0 t115 (wrap64 (x5 + 1))))) else (none)) else (some x1)
def laws_szPartS.f (k : Nat) (l0 : List (S52)) (a1 : Int) : Option (Int) := if (wrap64 (a1 - (l0.length : Int))) < 0 then (some (-1)) else (laws_szPartS.l0 k l0 (wrap64 (a1 - (l0.length : Int))) 0)
theorem laws_szPartS.mono_l : ∀ k, (∀ y0 y1 y2, LeO (laws_szPartS.l0 k y0 y1 y2) (laws_szPartS.l0 (k + 1) y0 y1 y2))
 | 0 => fun _ _ _ r h => by simp [laws_szPartS.l0] at h
 | k + 1 => by
  have ih0 := laws_szPartS.mono_l k
  intro y0 y1 y2
  unfold laws_szPartS.l0
  repeat' first
  | (with_reducible exact ih0 _ _ _)
  | (with_reducible exact laws_szPart.mono _ _ _ _ _)
  | (with_reducible exact LeO.refl _)
  | (with_reducible exact LeO.none _)
  | (with_reducible refine LeO.ite ?_ ?_)
  | (with_reducible refine LeO.bind ?_ (fun _ => ?_))
  | exact ih0 _ _ _
  | exact laws_szPart.mono _ _ _ _ _
theorem laws_szPartS.mono : ∀ a0 a1 k, LeO (laws_szPartS.f k a0 a1) (laws_szPartS.f (k + 1) a0 a1) := by
 intro a0 a1 k
 have ih0 := laws_szPartS.mono_l k
 unfold laws_szPartS.f
 repeat' first | (with_reducible first | exact ih0 _ _ _ | exact laws_szPart.mono _ _ _ _ _ | exact LeO.refl _ | exact LeO.none _ | refine LeO.ite ?_ ?_ | refine LeO.bind ?_ (fun _ => ?_)) | exact ih0 _ _ _ | exact laws_szPart.mono _ _ _ _ _
theorem laws_szPartS.calls (k : Nat) (A0 : Option Addr) (c0 : Nat) (l0 : List (S52)) (a1 : Int) (r : Int) (w : World) (hr0 : Kd.C k52 w A0 l0.length l0) (hc0 : l0.length ≤ c0) (h : laws_szPartS.f k l0 a1 = some r) :
  Calls Try.prog 12 #[.slice A0 l0.length c0, .int .i64 a1] w fun e w' => e = .returned (.int .i64 r) ∧ Below w.heap.size w w' := by
 have hu52 := Try.underlying52
 have HR0 := Aside0.mk hr0
 have HC0 := Aside0.mk hc0
 clear hr0 hc0
 have HB := Aside0.mk (Below.refl w.heap.size w)
 have H : (if (wrap64 (a1 - (l0.length : Int))) < 0 then (some (-1)) else (laws_szPartS.l0 k l0 (wrap64 (a1 - (l0.length : Int))) 0)) = some r := h
 clear h
 by_cases c3 : (wrap64 (a1 - (l0.length : Int))) < 0
 ·
  rw [if_pos c3] at H
  have c3b0 := decide_eq_true c3
  clear c3
  obtain rfl := Option.some.inj H
  go_enter Try.func12, Try.ntmps12
  go_wp2
  go_ret
  exact an_ (by exact hs_ HB.out)
 rw [if_neg c3] at H
 have c3b0 : decide ((wrap64 (a1 - (l0.length : Int))) < 0) = false := decide_eq_false c3
 clear c3
 have H' := Aside0.mk H
 clear H
 go_enter Try.func12, Try.ntmps12
 go_wp2
 go_loopg [1, 5] k (fun kq v1 v5 w' => ∃ (x1_1 : Int) (x5_1 : Int), v1 = .int .i64 x1_1 ∧ v5 = .int .i64 x5_1 ∧ Aside0 (laws_szPartS.l0 kq l0 x1_1 x5_1 = some r) ∧ Aside0 (kq ≤ k) ∧ Aside0 (Below w.heap.size w w'))
 case atStart => exact ⟨(wrap64 (a1 - (l0.length : Int))), (0), (by first | rfl | (simp; done) | (simp [*]; done)), (by first | rfl | (simp; done) | (simp [*]; done)), H', ⟨Nat.le_refl _⟩, ⟨by exact hs_ HB.out⟩⟩
 case round =>
  clear H'
  try clear c1
  try clear p2
  try clear c3
  try clear c3b0
  obtain ⟨x1_1, x5_1, rfl, rfl, HA, HK1, HB⟩ := hrel
  cases gk with
  | zero => exact absurd HA.out (by simp [laws_szPartS.l0])
  | succ k1 =>
   have H := HA.out
   clear HA
   simp only [laws_szPartS.l0] at H
   by_cases c4 : x5_1 < (l0.length : Int)
   ·
    rw [if_pos c4] at H
    have c4b0 := decide_eq_true c4
    clear c4
    by_cases c5 : 0 ≤ x5_1
    ·
     rw [if_pos c5] at H
     have c5b0 := decide_eq_true c5
     clear c5
     replace H := Option.bind_eq_some_iff.mp H
     obtain ⟨t115, A60, H⟩ := H
     have A6 := Aside0.mk A60
     clear A60
     by_cases c7 : t115 < 0
     ·
      rw [if_pos c7] at H
      have c7b0 := decide_eq_true c7
      clear c7
      obtain rfl := Option.some.inj H
      have p114 : 0 ≤ (x5_1 : Int) := of_decide_eq_true (by with_reducible assumption)
      have q114 : x5_1 < (l0.length : Int) := of_decide_eq_true (by with_reducible assumption)
      obtain ⟨ad114, A114_2, c114_2, e114, hx114_0, hx114_1, hx114_2, hl114_2, hi114_2⟩ := at_T52 HR0.out x5_1 p114 q114
      cases e114
      replace hx114_0 := cl_ HB.out hx114_0
      replace hx114_1 := cl_ HB.out hx114_1
      replace hx114_2 := cl_ HB.out hx114_2
      have HR114_2 := Aside0.mk hi114_2
      have HC114_2 := Aside0.mk hl114_2
      clear hi114_2 hl114_2
      replace p114 := eq_true p114
      replace q114 := eq_true q114
      go_wp2_with (first | ((with_reducible refine gate_callee (f := 25) rfl ?_); refine gl_ (some 23) Try.func25 #[.agg #[.int .i64 ((rd_T52 l0 x5_1).f0), .int .i64 ((rd_T52 l0 x5_1).f1), .slice A114_2 ((rd_T52 l0 x5_1).f2).length c114_2], .int .i64 x1_1] ?_; (with_reducible refine (laws_szPart.calls k1 ((rd_T52 l0 x5_1).f0) ((rd_T52 l0 x5_1).f1) _ _ ((rd_T52 l0 x5_1).f2) x1_1 t115 _ ?side1 ?side2 A6.out).mono ?_); (case side1 => exact cp_ ((Kd.C_below HR114_2.out HB.out))); (case side2 => exact HC114_2.out); rintro e w8 ⟨rfl, hb⟩; refine ⟨_, rfl, ?_⟩; replace HB := st_ HB hb; (try clear hb); (try clear hk)))
      go_ret
      exact an_ (by exact hs_ HB.out)
     rw [if_neg c7] at H
     have c7b0 : decide (t115 < 0) = false := decide_eq_false c7
     clear c7
     have H' := Aside0.mk H
     clear H
     have p114 : 0 ≤ (x5_1 : Int) := of_decide_eq_true (by with_reducible assumption)
     have q114 : x5_1 < (l0.length : Int) := of_decide_eq_true (by with_reducible assumption)
     obtain ⟨ad114, A114_2, c114_2, e114, hx114_0, hx114_1, hx114_2, hl114_2, hi114_2⟩ := at_T52 HR0.out x5_1 p114 q114
     cases e114
     replace hx114_0 := cl_ HB.out hx114_0
     replace hx114_1 := cl_ HB.out hx114_1
     replace hx114_2 := cl_ HB.out hx114_2
     have HR114_2 := Aside0.mk hi114_2
     have HC114_2 := Aside0.mk hl114_2
     clear hi114_2 hl114_2
     replace p114 := eq_true p114
     replace q114 := eq_true q114
     go_wp2_with (first | ((with_reducible refine gate_callee (f := 25) rfl ?_); refine gl_ (some 23) Try.func25 #[.agg #[.int .i64 ((rd_T52 l0 x5_1).f0), .int .i64 ((rd_T52 l0 x5_1).f1), .slice A114_2 ((rd_T52 l0 x5_1).f2).length c114_2], .int .i64 x1_1] ?_; (with_reducible refine (laws_szPart.calls k1 ((rd_T52 l0 x5_1).f0) ((rd_T52 l0 x5_1).f1) _ _ ((rd_T52 l0 x5_1).f2) x1_1 t115 _ ?side1 ?side2 A6.out).mono ?_); (case side1 => exact cp_ ((Kd.C_below HR114_2.out HB.out))); (case side2 => exact HC114_2.out); rintro e w9 ⟨rfl, hb⟩; refine ⟨_, rfl, ?_⟩; replace HB := st_ HB hb; (try clear hb); (try clear hk)))
     go_roundg k1
     case measure => have := HK1.out; omega
     case rel => exact ⟨(t115), (wrap64 (x5_1 + 1)), (by first | rfl | (simp; done) | (simp [*]; done)), (by first | rfl | (simp; done) | (simp [*]; done)), H', ⟨by have := HK1.out; omega⟩, ⟨by exact hs_ HB.out⟩⟩
    rw [if_neg c5] at H
    exact absurd H (by simp)
   rw [if_neg c4] at H
   have c4b0 : decide (x5_1 < (l0.length : Int)) = false := decide_eq_false c4
   clear c4
   obtain rfl := Option.some.inj H
   go_wp2
   go_ret
   exact an_ (by exact hs_ HB.out)
def laws_toLabel.f (a0_0 : ByteArray) (a0_1 : ByteArray) : Option (ByteArray × ByteArray) := some (a0_0, a0_1)
theorem laws_toLabel.calls (a0_0 : ByteArray) (a0_1 : ByteArray) (r1 : ByteArray) (r2 : ByteArray) (w : World) (h : laws_toLabel.f a0_0 a0_1 = some (r1, r2)) :
  Calls Try.prog 58 #[.agg #[.string a0_0, .string a0_1]] w fun e w' => e = .returned (.agg #[.string r1, .string r2]) ∧ Below w.heap.size w w' := by
 have hu85 := Try.underlying85
 have hu88 := Try.underlying88
 have HB := Aside0.mk (Below.refl w.heap.size w)
 have H : (some (a0_0, a0_1)) = some (r1, r2) := h
 clear h
 simp only [Option.some.injEq, Prod.mk.injEq] at H
 obtain ⟨rfl, rfl⟩ := H
 go_enter Try.func58, Try.ntmps58
 go_wp2_with (first | ((with_reducible refine gd_ 1 rfl ?_); refine bv_ 1 #[.string a0_0, .string a0_1] 85 ?_; intro gb134 hg w2 hbox hb; have BK134 := Aside0.mk (hbox); have GW134 := Aside0.mk ((gw_ hg (hs_ HB.out))); replace HB := st_ HB hb; have GE134 := Ge_.mk GW134.out; clear hb hbox hg) | ((with_reducible refine gd_ 2 rfl ?_); refine bv_ 2 #[.string (⟨#[]⟩ : ByteArray), .string (⟨#[]⟩ : ByteArray)] 88 ?_; intro gb135 hg w3 hbox hb; have BK135 := Aside0.mk (hbox); have GW135 := Aside0.mk ((gw_ hg (hs_ HB.out))); replace HB := st_ HB hb; have GE135 := Ge_.mk GW135.out; have NB134_135 := Ne_.mk (nl_ BK134.out hg); replace BK134 := bk2_ BK134 hb; have NB135_134 := Ne_.mk (NB134_135.out.symm); clear hb hbox hg) | ((with_reducible refine gd_ 3 rfl ?_); refine bv_ 3 #[.string (⟨#[]⟩ : ByteArray), .string (⟨#[]⟩ : ByteArray)] 88 ?_; intro gb136 hg w4 hbox hb; have BK136 := Aside0.mk (hbox); have GW136 := Aside0.mk ((gw_ hg (hs_ HB.out))); replace HB := st_ HB hb; have GE136 := Ge_.mk GW136.out; have NB134_136 := Ne_.mk (nl_ BK134.out hg); replace BK134 := bk2_ BK134 hb; have NB136_134 := Ne_.mk (NB134_136.out.symm); have NB135_136 := Ne_.mk (nl_ BK135.out hg); replace BK135 := bk2_ BK135 hb; have NB136_135 := Ne_.mk (NB135_136.out.symm); clear hb hbox hg; have hnb5 := NB134_135.out; have hnc5 := NB135_134.out; have hnb6 := NB134_136.out; have hnc6 := NB136_134.out; obtain ⟨z7_0, z7_1, y7_0, y7_1⟩ := bc2_ BK134.out; have hnb8 := NB136_135.out; have hnc8 := NB135_136.out; obtain ⟨z9_0, z9_1, y9_0, y9_1⟩ := bc2_ BK136.out; obtain ⟨z10_0, z10_1, y10_0, y10_1⟩ := bc2_ BK135.out))
 refine bodyPost_ret (results_cell_row rfl _ _ gb135 88 #[.string a0_0, .string a0_1] (0, 0) _ rfl (bp_ BK135.out) Try.underlying88 rfl (by kernel_rfl)) rfl ?_
 exact an_ (by exact hs_ HB.out)
def laws_toLabelS.l0 : Nat → List (S85) → List (S88) → Int → Option ((List (S88)))
 | 0, _, _, _ => none
 | k + 1, x0, x3, x4 => if x4 < (x0.length : Int) then (if 0 ≤ x4 then ((laws_toLabel.f ((rd_T85 x0 x4).f0) ((rd_T85 x0 x4).f1)).bind fun bt141 => (if x4 < (x3.length : Int) then (laws_toLabelS.l0 k x0 (x3.set (x4 : Int).toNat (⟨bt141.1, bt141.2⟩ : S88)) (wrap64 (x4 + 1))) else (none))) else (none)) else (some x3)
def laws_toLabelS.f (k : Nat) (l0 : List (S85)) : Option ((List (S88))) := if 0 ≤ (l0.length : Int) then (if ((l0.length : Int) : Int).toNat ≤ 8796093022208 then (laws_toLabelS.l0 k l0 (List.replicate ((l0.length : Int) : Int).toNat z88) 0) else (none)) else (none)
theorem laws_toLabelS.mono_l : ∀ k, (∀ y0 y1 y2, LeO (laws_toLabelS.l0 k y0 y1 y2) (laws_toLabelS.l0 (k + 1) y0 y1 y2))
 | 0 => fun _ _ _ r h => by simp [laws_toLabelS.l0] at h
 | k + 1 => by
  have ih0 := laws_toLabelS.mono_l k
  intro y0 y1 y2
  unfold laws_toLabelS.l0
  repeat' first
  | (with_reducible exact ih0 _ _ _)
  | (with_reducible exact LeO.refl _)
  | (with_reducible exact LeO.none _)
  | (with_reducible refine LeO.ite ?_ ?_)
  | (with_reducible refine LeO.bind ?_ (fun _ => ?_))
  | exact ih0 _ _ _
theorem laws_toLabelS.mono : ∀ a0 k, LeO (laws_toLabelS.f k a0) (laws_toLabelS.f (k + 1) a0) := by
 intro a0 k
 have ih0 := laws_toLabelS.mono_l k
 unfold laws_toLabelS.f
 repeat' first | (with_reducible first | exact ih0 _ _ _ | exact LeO.refl _ | exact LeO.none _ | refine LeO.ite ?_ ?_ | refine LeO.bind ?_ (fun _ => ?_)) | exact ih0 _ _ _
theorem laws_toLabelS.calls (k : Nat) (A0 : Option Addr) (c0 : Nat) (l0 : List (S85)) (r : List (S88)) (w : World) (hr0 : Kd.C k85 w A0 l0.length l0) (hc0 : l0.length ≤ c0) (h : laws_toLabelS.f k l0 = some r) :
  Calls Try.prog 16 #[.slice A0 l0.length c0] w fun e w' => ∃ v0_ : Value, e = .returned (v0_) ∧ Kd.R k88 88 w' w.heap.size (fun _ => True) v0_ r ∧ Below w.heap.size w w' := by
 have hu85 := Try.underlying85
 have hu88 := Try.underlying88
 have HR0 := Aside0.mk hr0
 have HC0 := Aside0.mk hc0
 clear hr0 hc0
 have HB := Aside0.mk (Below.refl w.heap.size w)
 have H : (if 0 ≤ (l0.length : Int) then (if ((l0.length : Int) : Int).toNat ≤ 8796093022208 then (laws_toLabelS.l0 k l0 (List.replicate ((l0.length : Int) : Int).toNat z88) 0) else (none)) else (none)) = some r := h
 clear h
 by_cases c2 : 0 ≤ (l0.length : Int)
 ·
  rw [if_pos c2] at H
  have c2b0 := eq_true c2
  have c2b1 := decide_eq_true c2
  clear c2
  by_cases c3 : ((l0.length : Int) : Int).toNat ≤ 8796093022208
  ·
   rw [if_pos c3] at H
   have c3b0 := eq_true c3
   have c3b1 := decide_eq_true c3
   clear c3
   obtain ⟨y137, hy137⟩ : ∃ y_ : List (S88), y_ = (List.replicate ((l0.length : Int) : Int).toNat z88) := ⟨_, rfl⟩
   replace H : (laws_toLabelS.l0 k l0 y137 0) = some r := by first | (rw [hy137]; with_reducible exact H) | (have H2_ := (Option.bind_some _ _).symm.trans H; rw [hy137]; with_reducible exact H2_) | (have H2_ := (Option.bind_some _ _).symm.trans H; with_reducible exact H2_) | with_reducible exact H | (rw [hy137]; exact H) | exact H
   have Ny137 := Aside0.mk hy137
   clear hy137
   have H' := Aside0.mk H
   clear H
   go_enter Try.func16, Try.ntmps16
   go_wp2_with (first | ((with_reducible refine gd_ 7 rfl ?_); refine Kd.R_make k88 _ 88 rfl (N := 7) rfl 29 _ _ rfl (l0.length : Int) rfl rfl Try.underlying29 (.agg #[(.string ⟨#[]⟩), (.string ⟨#[]⟩)]) 32 info88 rfl (by decide) (by omega) z88 (ok := fun _ => True) (okp := fun _ => True) (k88_mkM _ _ _ z88 ) (fun _ hk => hk) trivial (of_decide_eq_true (by with_reducible assumption)) (Nat.le_trans (Nat.mul_le_mul_right _ (of_decide_eq_true (by with_reducible assumption) : (l0.length : Int).toNat ≤ 8796093022208)) (by omega)) (Below.refl _ _) (Nat.le_refl _) ?_; intro v138 w4 ho5 hb hg_ hnew_; clear hg_ hnew_; (first | rw [← Ny137.out] at ho5 | (simp only [Int.reduceToNat] at ho5; rw [← Ny137.out] at ho5)); have HO139 := Aside0.mk (Kd.R_lower ho5 (below_size (hs_ HB.out))); have n1_ := st_ HB hb; clear HB; have HB := n1_; clear n1_; clear hb ho5))
   go_loopg [4] k (fun kq v4 w' => ∃ (x3_1 : List (S88)) (x4_1 : Int), v4 = .int .i64 x4_1 ∧ Aside0 (laws_toLabelS.l0 kq l0 x3_1 x4_1 = some r) ∧ Aside0 (kq ≤ k) ∧ Aside0 (Kd.R k88 88 w' w.heap.size (fun _ => True) v138 x3_1) ∧ Aside0 (Below w.heap.size w w'))
   case atStart => exact ⟨(y137), (0), (by first | rfl | (simp; done) | (simp [*]; done)), H', ⟨Nat.le_refl _⟩, ⟨by (with_reducible repeat (first | apply Kd.R_alloc | apply Kd.R_drewN | apply Kd.R_drew)); exact HO139.out⟩, ⟨by exact hs_ HB.out⟩⟩
   case round =>
    clear H'
    try clear c1
    try clear c2
    try clear c2b0
    try clear c2b1
    try clear p2
    try clear c3
    try clear c3b0
    try clear c3b1
    obtain ⟨x3_1, x4_1, rfl, HA, HK1, HO_3, HB⟩ := hrel
    cases gk with
    | zero => exact absurd HA.out (by simp [laws_toLabelS.l0])
    | succ k1 =>
     have H := HA.out
     clear HA
     simp only [laws_toLabelS.l0] at H
     by_cases c6 : x4_1 < (l0.length : Int)
     ·
      rw [if_pos c6] at H
      have c6b0 := decide_eq_true c6
      clear c6
      by_cases c7 : 0 ≤ x4_1
      ·
       rw [if_pos c7] at H
       have c7b0 := decide_eq_true c7
       clear c7
       replace H := Option.bind_eq_some_iff.mp H
       obtain ⟨⟨t141, t142⟩, A80, H⟩ := H
       have A8 := Aside0.mk A80
       clear A80
       by_cases c9 : x4_1 < (x3_1.length : Int)
       ·
        rw [if_pos c9] at H
        have c9b0 := decide_eq_true c9
        clear c9
        obtain ⟨y143, hy143⟩ : ∃ y_ : List (S88), y_ = (x3_1.set (x4_1 : Int).toNat (⟨t141, t142⟩ : S88)) := ⟨_, rfl⟩
        replace H : (laws_toLabelS.l0 k1 l0 y143 (wrap64 (x4_1 + 1))) = some r := by first | (rw [hy143]; with_reducible exact H) | (have H2_ := (Option.bind_some _ _).symm.trans H; rw [hy143]; with_reducible exact H2_) | (have H2_ := (Option.bind_some _ _).symm.trans H; with_reducible exact H2_) | with_reducible exact H | (rw [hy143]; exact H) | exact H
        have Ny143 := Aside0.mk hy143
        clear hy143
        have H' := Aside0.mk H
        clear H
        have p140 : 0 ≤ (x4_1 : Int) := of_decide_eq_true (by with_reducible assumption)
        have q140 : x4_1 < (l0.length : Int) := of_decide_eq_true (by with_reducible assumption)
        obtain ⟨ad140, e140, hx140_0, hx140_1⟩ := at_T85 HR0.out x4_1 p140 q140
        cases e140
        replace hx140_0 := cl_ HB.out hx140_0
        replace hx140_1 := cl_ HB.out hx140_1
        replace p140 := eq_true p140
        replace q140 := eq_true q140
        go_wp2_with (first | ((with_reducible refine gate_callee (f := 58) rfl ?_); refine gl_ (some 20) Try.func58 #[.agg #[.string ((rd_T85 l0 x4_1).f0), .string ((rd_T85 l0 x4_1).f1)]] ?_; (with_reducible refine (laws_toLabel.calls ((rd_T85 l0 x4_1).f0) ((rd_T85 l0 x4_1).f1) t141 t142 _ A8.out).mono ?_); rintro e w11 ⟨rfl, hb⟩; refine ⟨_, rfl, ?_⟩; replace HO_3 := Aside0.mk (Kd.R_below (rp_ HO_3.out) hb); replace HB := st_ HB hb; (try clear hb); (try clear hk); have p10 : 0 ≤ (x4_1 : Int) := of_decide_eq_true (by with_reducible assumption); have q10 : (x4_1 : Int) < ((x3_1.length : Int) : Int) := of_decide_eq_true (by with_reducible assumption); obtain ⟨go10, co10, eo10, gb10, gl10, cl10, HG10⟩ := Kd.R_form HO_3.out (by omega); (first | cases eo10 | (injection eo10 with ea_ en_ ec_; (first | subst ea_ | (injection ea_ with ea_; subst ea_)); subst ec_; clear en_)); have GB10 := Aside0.mk gb10; have GG10 := Aside0.mk HG10; clear gb10 gl10 HG10; obtain ⟨ce10, hcl10, hM10, hcc10, hfr10⟩ := Kd.R_elem HO_3.out z88 (x4_1 : Int) p10 q10; obtain rfl := k88_openM hM10; have hx10_0 : w11.cell? ⟨go10, (x4_1 : Int).toNat * 2, none⟩ = some (.string ((rd_T88 x3_1 x4_1).f0)) := hcc10 0 _ rfl; have hx10_1 : w11.cell? ⟨go10, (x4_1 : Int).toNat * 2 + 1, none⟩ = some (.string ((rd_T88 x3_1 x4_1).f1)) := hcc10 1 _ rfl; have hf10_0 : w11.frozen? ⟨go10, (x4_1 : Int).toNat * 2, none⟩ = false := hfr10 0; have hf10_1 : w11.frozen? ⟨go10, (x4_1 : Int).toNat * 2 + 1, none⟩ = false := hfr10 1; clear hcl10 hcc10 hfr10 hM10; replace p10 := eq_true p10; replace q10 := eq_true q10; have HX12 := Aside0.mk (show Kd.R k88 88 w11 w.heap.size (fun _ => True) (.slice (some ⟨go10, 0, none⟩) x3_1.length co10) x3_1 from (rp_ HO_3.out)); obtain ⟨ce12, hcl12, hM12, hcc12, hfr12⟩ := Kd.R_elem HX12.out z88 (x4_1 : Int) (of_decide_eq_true (by with_reducible assumption)) (by have h_ : (x4_1 : Int) < ((x3_1.length : Int) : Int) := of_decide_eq_true (by with_reducible assumption); first | exact h_ | (have e_ := (Kd.R_reads' HO_3.out).1; omega) | simpa using h_); obtain rfl := k88_openM hM12; have HP12 := Kd.R_seg HX12.out (x4_1 : Int) (of_decide_eq_true (by with_reducible assumption)) (by have h_ : (x4_1 : Int) < ((x3_1.length : Int) : Int) := of_decide_eq_true (by with_reducible assumption); first | exact h_ | (have e_ := (Kd.R_reads' HO_3.out).1; omega) | simpa using h_) (seg := [.string t141, .string t142]) (j := 0) hcl12 hcc12 (show 2 ≤ 2 from by decide) (x' := (⟨t141, t142⟩ : S88)) (k88_mkM _ _ _ (⟨t141, t142⟩ : S88) ) (fun _ hk => hk); have hx12_0 := hcc12 0 _ rfl; (try simp only [show (k88).sz = 2 from rfl, Nat.mul_one, Nat.add_zero] at hx12_0); have hf12_0 := hfr12 0; (try simp only [show (k88).sz = 2 from rfl, Nat.mul_one, Nat.add_zero] at hf12_0); have hx12_1 := hcc12 1 _ rfl; (try simp only [show (k88).sz = 2 from rfl, Nat.mul_one, Nat.add_zero] at hx12_1); have hf12_1 := hfr12 1; (try simp only [show (k88).sz = 2 from rfl, Nat.mul_one, Nat.add_zero] at hf12_1); clear hcl12 hcc12 hfr12 hM12) | ((with_reducible refine gate_store (t := 88) (p := 21) rfl ?_); refine store_event (t := 88) (p := 21) (v := ?vo_w13) (w1 := ((w11.setCell ⟨go10, (x4_1 : Int).toNat * 2, none⟩ (.string t141)).setCell ⟨go10, (x4_1 : Int).toNat * 2 + 1, none⟩ (.string t142))) ?hg ?ho ?hn ?hr ?_; (case ho => rfl); (case hg => rfl); (case hn => rfl); (case hr => first | (go_simp; done) | (go_simp; rfl)); intro w13 hw; have hg : w11.grownBy w13 (some go10) := (by rw [hw]; exact HP12.2); have hp_ : Kd.R k88 88 w13 w.heap.size (fun _ => True) (.slice (some ⟨go10, 0, none⟩) x3_1.length co10) y143 := (by rw [hw, Ny143.out]; exact HP12.1); clear HP12; replace HO_3 := Aside0.mk (hp_); replace HB := Aside0.mk ((by rw [hw]; exact below_set (below_set (HB.out) GB10.out) GB10.out : Below w.heap.size w w13)); clear hg hw hp_))
        go_roundg k1
        case measure => have := HK1.out; omega
        case rel => exact ⟨(y143), (wrap64 (x4_1 + 1)), (by first | rfl | (simp; done) | (simp [*]; done)), H', ⟨by have := HK1.out; omega⟩, ⟨by (with_reducible repeat (first | apply Kd.R_alloc | apply Kd.R_drewN | apply Kd.R_drew)); exact HO_3.out⟩, ⟨by exact hs_ HB.out⟩⟩
       rw [if_neg c9] at H
       exact absurd H (by simp)
      rw [if_neg c7] at H
      exact absurd H (by simp)
     rw [if_neg c6] at H
     have c6b0 : decide (x4_1 < (l0.length : Int)) = false := decide_eq_false c6
     clear c6
     obtain rfl := Option.some.inj H
     go_wp2
     go_ret
     exact ⟨_, by first | rfl | (simp [errW_none, errW_some] <;> rfl) | (simp [*, errW_none, errW_some] <;> rfl), by (with_reducible repeat (first | apply Kd.R_alloc | apply Kd.R_drewN | apply Kd.R_drew)); exact HO_3.out, by exact hs_ HB.out⟩
  rw [if_neg c3] at H
  exact absurd H (by simp)
 rw [if_neg c2] at H
 exact absurd H (by simp)
def laws_toAlarm.f (k : Nat) (l0_0 : List (S85)) (a0_1 : Int) (a0_2 : Int) (a0_3 : ByteArray) : Option ((List (S88)) × Int × Int × ByteArray) := (laws_toLabelS.f k l0_0).bind fun t147 => (some (t147, a0_1, a0_2, a0_3))
theorem laws_toAlarm.mono : ∀ a0 a1 a2 a3 k, LeO (laws_toAlarm.f k a0 a1 a2 a3) (laws_toAlarm.f (k + 1) a0 a1 a2 a3) := by
 intro a0 a1 a2 a3 k
 unfold laws_toAlarm.f
 repeat' first | (with_reducible first | exact laws_toLabelS.mono _ _ | exact LeO.refl _ | exact LeO.none _ | refine LeO.ite ?_ ?_ | refine LeO.bind ?_ (fun _ => ?_)) | exact laws_toLabelS.mono _ _
theorem laws_toAlarm.calls (k : Nat) (A0_0 : Option Addr) (c0_0 : Nat) (l0_0 : List (S85)) (a0_1 : Int) (a0_2 : Int) (a0_3 : ByteArray) (r1 : List (S88)) (r2 : Int) (r3 : Int) (r4 : ByteArray) (w : World) (hr0_0 : Kd.C k85 w A0_0 l0_0.length l0_0) (hc0_0 : l0_0.length ≤ c0_0) (h : laws_toAlarm.f k l0_0 a0_1 a0_2 a0_3 = some (r1, r2, r3, r4)) :
  Calls Try.prog 44 #[.agg #[.slice A0_0 l0_0.length c0_0, .int .i64 a0_1, .int .i64 a0_2, .string a0_3]] w fun e w' => ∃ v0_ : Value, e = .returned (.agg #[v0_, .int .i64 r2, .int .i64 r3, .string r4]) ∧ Kd.R k88 88 w' w.heap.size (fun _ => True) v0_ r1 ∧ Below w.heap.size w w' := by
 have hu35 := Try.underlying35
 have hu43 := Try.underlying43
 have HR0_0 := Aside0.mk hr0_0
 have HC0_0 := Aside0.mk hc0_0
 clear hr0_0 hc0_0
 have HB := Aside0.mk (Below.refl w.heap.size w)
 have H : ((laws_toLabelS.f k l0_0).bind fun t147 => (some (t147, a0_1, a0_2, a0_3))) = some (r1, r2, r3, r4) := h
 clear h
 replace H := Option.bind_eq_some_iff.mp H
 obtain ⟨t147, A20, H⟩ := H
 have A2 := Aside0.mk A20
 clear A20
 simp only [Option.some.injEq, Prod.mk.injEq] at H
 obtain ⟨rfl, rfl, rfl, rfl⟩ := H
 go_enter Try.func44, Try.ntmps44
 go_wp2_with (first | ((with_reducible refine gd_ 1 rfl ?_); refine bv_ 1 #[.slice A0_0 l0_0.length c0_0, .int .i64 a0_1, .int .i64 a0_2, .string a0_3] 35 ?_; intro gb144 hg w3 hbox hb; have BK144 := Aside0.mk (hbox); have GW144 := Aside0.mk ((gw_ hg (hs_ HB.out))); replace HB := st_ HB hb; have GE144 := Ge_.mk GW144.out; clear hb hbox hg) | ((with_reducible refine gd_ 2 rfl ?_); refine bv_ 2 #[.slice none 0 0, .int .i64 0, .int .i64 0, .string (⟨#[]⟩ : ByteArray)] 43 ?_; intro gb145 hg w4 hbox hb; have BK145 := Aside0.mk (hbox); have GW145 := Aside0.mk ((gw_ hg (hs_ HB.out))); replace HB := st_ HB hb; have GE145 := Ge_.mk GW145.out; have NB144_145 := Ne_.mk (nl_ BK144.out hg); replace BK144 := bk2_ BK144 hb; have NB145_144 := Ne_.mk (NB144_145.out.symm); clear hb hbox hg) | ((with_reducible refine gd_ 3 rfl ?_); refine bv_ 3 #[.slice none 0 0, .int .i64 0, .int .i64 0, .string (⟨#[]⟩ : ByteArray)] 43 ?_; intro gb146 hg w5 hbox hb; have BK146 := Aside0.mk (hbox); have GW146 := Aside0.mk ((gw_ hg (hs_ HB.out))); replace HB := st_ HB hb; have GE146 := Ge_.mk GW146.out; have NB144_146 := Ne_.mk (nl_ BK144.out hg); replace BK144 := bk2_ BK144 hb; have NB146_144 := Ne_.mk (NB144_146.out.symm); have NB145_146 := Ne_.mk (nl_ BK145.out hg); replace BK145 := bk2_ BK145 hb; have NB146_145 := Ne_.mk (NB145_146.out.symm); clear hb hbox hg; have hnb6 := NB144_145.out; have hnc6 := NB145_144.out; have hnb7 := NB144_146.out; have hnc7 := NB146_144.out; obtain ⟨z8_0, z8_1, z8_2, z8_3, y8_0, y8_1, y8_2, y8_3⟩ := bc4_ BK144.out) | ((with_reducible refine gate_callee (f := 16) rfl ?_); refine gl_ (some 6) Try.func16 #[.slice A0_0 l0_0.length c0_0] ?_; (with_reducible refine (laws_toLabelS.calls k _ _ l0_0 t147 _ ?side1 ?side2 A2.out).mono ?_); (case side1 => exact cp_ ((Kd.C_below HR0_0.out HB.out))); (case side2 => exact HC0_0.out); rintro e w9 ⟨v148, rfl, ho0, hb⟩; refine ⟨_, rfl, ?_⟩; have HO149 := Aside0.mk (Kd.R_lower ho0 (below_size (hs_ HB.out))); replace BK144 := bk2_ BK144 hb; replace BK145 := bk2_ BK145 hb; replace BK146 := bk2_ BK146 hb; replace HB := st_ HB hb; (try clear hb); (try clear hk); (try clear ho0); obtain ⟨Ao10, co10, eo10⟩ := Kd.R_slice HO149.out; subst eo10; have hnb11 := NB146_145.out; have hnc11 := NB145_146.out; obtain ⟨z12_0, z12_1, z12_2, z12_3, y12_0, y12_1, y12_2, y12_3⟩ := bc4_ BK146.out; obtain ⟨z13_0, z13_1, z13_2, z13_3, y13_0, y13_1, y13_2, y13_3⟩ := bc4_ BK144.out; obtain ⟨z14_0, z14_1, z14_2, z14_3, y14_0, y14_1, y14_2, y14_3⟩ := bc4_ BK145.out))
 refine bodyPost_ret (results_cell_row rfl _ _ gb145 43 #[.slice Ao10 t147.length co10, .int .i64 a0_1, .int .i64 a0_2, .string a0_3] (0, 0) _ rfl (bp_ BK145.out) Try.underlying43 rfl (by kernel_rfl)) rfl ?_
 exact ⟨_, by first | rfl | (simp [errW_none, errW_some] <;> rfl) | (simp [*, errW_none, errW_some] <;> rfl), by (with_reducible repeat (first | apply Kd.R_alloc | apply Kd.R_drewN | apply Kd.R_drew)); exact Kd.R_mono (rf_ gb145 (Kd.R_far (p := ⟨gb146, 3, none⟩) (Kd.R_far (p := ⟨gb146, 2, none⟩) (Kd.R_far (p := ⟨gb146, 1, none⟩) (Kd.R_far (p := ⟨gb146, 0, none⟩) (Kd.R_types (Kd.R_types HO149.out BK146.out (by decide)) BK145.out (by decide)) (fun _ hk => hk.1.2) (.slice Ao10 t147.length co10)) (fun _ hk => hk.1.2) (.int .i64 a0_1)) (fun _ hk => hk.1.2) (.int .i64 a0_2)) (fun _ hk => hk.1.2) (.string a0_3)) (fun _ hk => hk.2)) (fun _ hk => trivial), by exact hs_ HB.out⟩
def laws_toAlarmS.l0 : Nat → List (S35) → List (S43) → Int → Option ((List (S43)))
 | 0, _, _, _ => none
 | k + 1, x0, x3, x4 => if x4 < (x0.length : Int) then (if 0 ≤ x4 then ((laws_toAlarm.f k ((rd_T35 x0 x4).f0) ((rd_T35 x0 x4).f1) ((rd_T35 x0 x4).f2) ((rd_T35 x0 x4).f3)).bind fun bt154 => (if x4 < (x3.length : Int) then (laws_toAlarmS.l0 k x0 (x3.set (x4 : Int).toNat (⟨bt154.1, bt154.2.1, bt154.2.2.1, bt154.2.2.2⟩ : S43)) (wrap64 (x4 + 1))) else (none))) else (none)) else (some x3)
def laws_toAlarmS.f (k : Nat) (l0 : List (S35)) : Option ((List (S43))) := if 0 ≤ (l0.length : Int) then (if ((l0.length : Int) : Int).toNat ≤ 5026338869833 then (laws_toAlarmS.l0 k l0 (List.replicate ((l0.length : Int) : Int).toNat z43) 0) else (none)) else (none)
theorem laws_toAlarmS.mono_l : ∀ k, (∀ y0 y1 y2, LeO (laws_toAlarmS.l0 k y0 y1 y2) (laws_toAlarmS.l0 (k + 1) y0 y1 y2))
 | 0 => fun _ _ _ r h => by simp [laws_toAlarmS.l0] at h
 | k + 1 => by
  have ih0 := laws_toAlarmS.mono_l k
  intro y0 y1 y2
  unfold laws_toAlarmS.l0
  repeat' first
  | (with_reducible exact ih0 _ _ _)
  | (with_reducible exact laws_toAlarm.mono _ _ _ _ _)
  | (with_reducible exact LeO.refl _)
  | (with_reducible exact LeO.none _)
  | (with_reducible refine LeO.ite ?_ ?_)
  | (with_reducible refine LeO.bind ?_ (fun _ => ?_))
  | exact ih0 _ _ _
  | exact laws_toAlarm.mono _ _ _ _ _
theorem laws_toAlarmS.mono : ∀ a0 k, LeO (laws_toAlarmS.f k a0) (laws_toAlarmS.f (k + 1) a0) := by
 intro a0 k
 have ih0 := laws_toAlarmS.mono_l k
 unfold laws_toAlarmS.f
 repeat' first | (with_reducible first | exact ih0 _ _ _ | exact laws_toAlarm.mono _ _ _ _ _ | exact LeO.refl _ | exact LeO.none _ | refine LeO.ite ?_ ?_ | refine LeO.bind ?_ (fun _ => ?_)) | exact ih0 _ _ _ | exact laws_toAlarm.mono _ _ _ _ _
theorem laws_toAlarmS.calls (k : Nat) (A0 : Option Addr) (c0 : Nat) (l0 : List (S35)) (r : List (S43)) (w : World) (hr0 : Kd.C k35 w A0 l0.length l0) (hc0 : l0.length ≤ c0) (h : laws_toAlarmS.f k l0 = some r) :
  Calls Try.prog 65 #[.slice A0 l0.length c0] w fun e w' => ∃ v0_ : Value, e = .returned (v0_) ∧ Kd.S k43 43 w' w.heap.size (fun _ => True) v0_ r ∧ Below w.heap.size w w' := by
 have hu35 := Try.underlying35
 have hu43 := Try.underlying43
 have HR0 := Aside0.mk hr0
 have HC0 := Aside0.mk hc0
 clear hr0 hc0
 have HB := Aside0.mk (Below.refl w.heap.size w)
 have H : (if 0 ≤ (l0.length : Int) then (if ((l0.length : Int) : Int).toNat ≤ 5026338869833 then (laws_toAlarmS.l0 k l0 (List.replicate ((l0.length : Int) : Int).toNat z43) 0) else (none)) else (none)) = some r := h
 clear h
 by_cases c2 : 0 ≤ (l0.length : Int)
 ·
  rw [if_pos c2] at H
  have c2b0 := eq_true c2
  have c2b1 := decide_eq_true c2
  clear c2
  by_cases c3 : ((l0.length : Int) : Int).toNat ≤ 5026338869833
  ·
   rw [if_pos c3] at H
   have c3b0 := eq_true c3
   have c3b1 := decide_eq_true c3
   clear c3
   obtain ⟨y150, hy150⟩ : ∃ y_ : List (S43), y_ = (List.replicate ((l0.length : Int) : Int).toNat z43) := ⟨_, rfl⟩
   replace H : (laws_toAlarmS.l0 k l0 y150 0) = some r := by first | (rw [hy150]; with_reducible exact H) | (have H2_ := (Option.bind_some _ _).symm.trans H; rw [hy150]; with_reducible exact H2_) | (have H2_ := (Option.bind_some _ _).symm.trans H; with_reducible exact H2_) | with_reducible exact H | (rw [hy150]; exact H) | exact H
   have Ny150 := Aside0.mk hy150
   clear hy150
   have H' := Aside0.mk H
   clear H
   go_enter Try.func65, Try.ntmps65
   go_wp2_with (first | ((with_reducible refine gd_ 7 rfl ?_); refine Kd.S_make k43 _ 43 rfl (N := 7) rfl 44 _ _ rfl (l0.length : Int) rfl rfl Try.underlying44 (.agg #[(.slice none 0 0), (.int .i64 0), (.int .i64 0), (.string ⟨#[]⟩)]) 56 info43 rfl (by decide) (by omega) z43 (ok := fun _ => True) (okp := fun _ => True) (k43_mkM _ _ _ z43 (Kd.R_nil _ _ _ _ _)) (fun _ hk => hk) trivial (of_decide_eq_true (by with_reducible assumption)) (Nat.le_trans (Nat.mul_le_mul_right _ (of_decide_eq_true (by with_reducible assumption) : (l0.length : Int).toNat ≤ 5026338869833)) (by omega)) (Below.refl _ _) (Nat.le_refl _) ?_; intro v151 w4 ho5 hb hg_ hnew_; clear hg_ hnew_; (first | rw [← Ny150.out] at ho5 | (simp only [Int.reduceToNat] at ho5; rw [← Ny150.out] at ho5)); have HO152 := Aside0.mk (Kd.S_lower ho5 (below_size (hs_ HB.out))); have n1_ := st_ HB hb; clear HB; have HB := n1_; clear n1_; clear hb ho5))
   go_loopg [4] k (fun kq v4 w' => ∃ (x3_1 : List (S43)) (x4_1 : Int), v4 = .int .i64 x4_1 ∧ Aside0 (laws_toAlarmS.l0 kq l0 x3_1 x4_1 = some r) ∧ Aside0 (kq ≤ k) ∧ Aside0 (Kd.S k43 43 w' w.heap.size (fun _ => True) v151 x3_1) ∧ Aside0 (Below w.heap.size w w'))
   case atStart => exact ⟨(y150), (0), (by first | rfl | (simp; done) | (simp [*]; done)), H', ⟨Nat.le_refl _⟩, ⟨by (with_reducible repeat (first | apply Kd.S_alloc | apply Kd.S_drewN | apply Kd.S_drew)); exact HO152.out⟩, ⟨by exact hs_ HB.out⟩⟩
   case round =>
    clear H'
    try clear c2
    try clear c2b0
    try clear c2b1
    try clear p2
    try clear c3
    try clear c3b0
    try clear c3b1
    obtain ⟨x3_1, x4_1, rfl, HA, HK1, HO_3, HB⟩ := hrel
    cases gk with
    | zero => exact absurd HA.out (by simp [laws_toAlarmS.l0])
    | succ k1 =>
     have H := HA.out
     clear HA
     simp only [laws_toAlarmS.l0] at H
     by_cases c6 : x4_1 < (l0.length : Int)
     ·
      rw [if_pos c6] at H
      have c6b0 := decide_eq_true c6
      clear c6
      by_cases c7 : 0 ≤ x4_1
      ·
       rw [if_pos c7] at H
       have c7b0 := decide_eq_true c7
       clear c7
       replace H := Option.bind_eq_some_iff.mp H
       obtain ⟨⟨t154, t157, t158, t159⟩, A80, H⟩ := H
       have A8 := Aside0.mk A80
       clear A80
       by_cases c9 : x4_1 < (x3_1.length : Int)
       ·
        rw [if_pos c9] at H
        have c9b0 := decide_eq_true c9
        clear c9
        obtain ⟨y160, hy160⟩ : ∃ y_ : List (S43), y_ = (x3_1.set (x4_1 : Int).toNat (⟨t154, t157, t158, t159⟩ : S43)) := ⟨_, rfl⟩
        replace H : (laws_toAlarmS.l0 k1 l0 y160 (wrap64 (x4_1 + 1))) = some r := by first | (rw [hy160]; with_reducible exact H) | (have H2_ := (Option.bind_some _ _).symm.trans H; rw [hy160]; with_reducible exact H2_) | (have H2_ := (Option.bind_some _ _).symm.trans H; with_reducible exact H2_) | with_reducible exact H | (rw [hy160]; exact H) | exact H
        have Ny160 := Aside0.mk hy160
        clear hy160
        have H' := Aside0.mk H
        clear H
        have p153 : 0 ≤ (x4_1 : Int) := of_decide_eq_true (by with_reducible assumption)
        have q153 : x4_1 < (l0.length : Int) := of_decide_eq_true (by with_reducible assumption)
        obtain ⟨ad153, A153_0, c153_0, e153, hx153_0, hx153_1, hx153_2, hx153_3, hl153_0, hi153_0⟩ := at_T35 HR0.out x4_1 p153 q153
        cases e153
        replace hx153_0 := cl_ HB.out hx153_0
        replace hx153_1 := cl_ HB.out hx153_1
        replace hx153_2 := cl_ HB.out hx153_2
        replace hx153_3 := cl_ HB.out hx153_3
        have HR153_0 := Aside0.mk hi153_0
        have HC153_0 := Aside0.mk hl153_0
        clear hi153_0 hl153_0
        replace p153 := eq_true p153
        replace q153 := eq_true q153
        go_wp2_with (first | ((with_reducible refine gate_callee (f := 44) rfl ?_); refine gl_ (some 20) Try.func44 #[.agg #[.slice A153_0 ((rd_T35 l0 x4_1).f0).length c153_0, .int .i64 ((rd_T35 l0 x4_1).f1), .int .i64 ((rd_T35 l0 x4_1).f2), .string ((rd_T35 l0 x4_1).f3)]] ?_; (with_reducible refine (laws_toAlarm.calls k1 _ _ ((rd_T35 l0 x4_1).f0) ((rd_T35 l0 x4_1).f1) ((rd_T35 l0 x4_1).f2) ((rd_T35 l0 x4_1).f3) t154 t157 t158 t159 _ ?side1 ?side2 A8.out).mono ?_); (case side1 => exact cp_ ((Kd.C_below HR153_0.out HB.out))); (case side2 => exact HC153_0.out); rintro e w11 ⟨v155, rfl, ho0, hb⟩; refine ⟨_, rfl, ?_⟩; replace HO_3 := Aside0.mk (Kd.S_elder' (sp_ HO_3.out) (Kd.R_base ho0) hb); have HO156 := Aside0.mk (Kd.R_lower ho0 (below_size (hs_ HB.out))); replace HB := st_ HB hb; (try clear hb); (try clear hk); (try clear ho0); have p10 : 0 ≤ (x4_1 : Int) := of_decide_eq_true (by with_reducible assumption); have q10 : (x4_1 : Int) < ((x3_1.length : Int) : Int) := of_decide_eq_true (by with_reducible assumption); obtain ⟨go10, co10, eo10, gb10, gl10, cl10, HG10⟩ := Kd.S_form HO_3.out (by omega); (first | cases eo10 | (injection eo10 with ea_ en_ ec_; (first | subst ea_ | (injection ea_ with ea_; subst ea_)); subst ec_; clear en_)); have GB10 := Aside0.mk gb10; have GG10 := Aside0.mk HG10; clear gb10 gl10 HG10; obtain ⟨_, ce10, hcl10, hM10, hcc10, hfr10, _, _⟩ := Kd.S_elem HO_3.out z43 (x4_1 : Int) p10 q10; obtain ⟨ve10_0, rfl, ge10_0⟩ := k43_openM hM10; have hx10_0 : w11.cell? ⟨go10, (x4_1 : Int).toNat * 4, none⟩ = some (ve10_0) := hcc10 0 _ rfl; have hx10_1 : w11.cell? ⟨go10, (x4_1 : Int).toNat * 4 + 1, none⟩ = some (.int .i64 ((rd_T43 x3_1 x4_1).f1)) := hcc10 1 _ rfl; have hx10_2 : w11.cell? ⟨go10, (x4_1 : Int).toNat * 4 + 2, none⟩ = some (.int .i64 ((rd_T43 x3_1 x4_1).f2)) := hcc10 2 _ rfl; have hx10_3 : w11.cell? ⟨go10, (x4_1 : Int).toNat * 4 + 3, none⟩ = some (.string ((rd_T43 x3_1 x4_1).f3)) := hcc10 3 _ rfl; have hf10_0 : w11.frozen? ⟨go10, (x4_1 : Int).toNat * 4, none⟩ = false := hfr10 0; have hf10_1 : w11.frozen? ⟨go10, (x4_1 : Int).toNat * 4 + 1, none⟩ = false := hfr10 1; have hf10_2 : w11.frozen? ⟨go10, (x4_1 : Int).toNat * 4 + 2, none⟩ = false := hfr10 2; have hf10_3 : w11.frozen? ⟨go10, (x4_1 : Int).toNat * 4 + 3, none⟩ = false := hfr10 3; clear hcl10 hcc10 hfr10 hM10; replace p10 := eq_true p10; replace q10 := eq_true q10; have n_ := Aside0.mk (Kd.S_mono (ok' := (fun k_ => some k_ ≠ (v155 : Value).ownBlock)) HO_3.out (fun k_ hk => hk.2)); clear HO_3; have HO_3 := n_; clear n_; have HX12 := Aside0.mk (show Kd.S k43 43 w11 w.heap.size (fun k_ => ((fun _ => True)) k_ ∧ ¬ ((fun k_ => some k_ = (v155 : Value).ownBlock)) k_) (.slice (some ⟨go10, 0, none⟩) x3_1.length co10) x3_1 from (Kd.S_mono (sp_ HO_3.out) (fun k_ hk => ⟨trivial, fun e_ => hk e_⟩))); obtain ⟨oki12, ce12, hcl12, hM12, hcc12, hfr12, hoki12, hH12⟩ := Kd.S_elem HX12.out z43 (x4_1 : Int) (of_decide_eq_true (by with_reducible assumption)) (by have h_ : (x4_1 : Int) < ((x3_1.length : Int) : Int) := of_decide_eq_true (by with_reducible assumption); first | exact h_ | (have e_ := (Kd.S_reads' HO_3.out).1; omega) | simpa using h_); obtain ⟨ve12_0, rfl, ge12_0⟩ := k43_openM hM12; have HP12 := Kd.S_seg hH12 (of_decide_eq_true (by with_reducible assumption)) (by have h_ : (x4_1 : Int) < ((x3_1.length : Int) : Int) := of_decide_eq_true (by with_reducible assumption); first | exact h_ | (have e_ := (Kd.S_reads' HO_3.out).1; omega) | simpa using h_) (seg := [v155, .int .i64 t157, .int .i64 t158, .string t159]) (j := 0) (show 4 ≤ 4 from by decide) (x' := (⟨t154, t157, t158, t159⟩ : S43)) (k43_mkM _ _ _ (⟨t154, t157, t158, t159⟩ : S43) (Kd.R_mono (Kd.R_tight rfl (Kd.R_mono (ok' := fun k_ => ((fun _ => True)) k_ ∧ k_ ≠ go10) (Kd.R_apart' (HO156.out) (Kd.S_typed HO_3.out) (by decide)) (fun k_ hk => ⟨trivial, fun e_ => (hk.2) (by rw [e_]; rfl)⟩))) (fun _ h_ => Or.inr (h_)))) (fun _ hk => hk) (fun k_ hk_ => ((Kd.R_mono (ok' := fun k_ => ((fun _ => True)) k_ ∧ k_ ≠ go10) (Kd.R_apart' (HO156.out) (Kd.S_typed HO_3.out) (by decide)) (fun k_ hk => ⟨trivial, fun e_ => (hk.2) (by rw [e_]; rfl)⟩))).1 k_ hk_.symm); have hx12_0 := hcc12 0 _ rfl; (try simp only [show (k43).sz = 4 from rfl, Nat.mul_one, Nat.add_zero] at hx12_0); have hf12_0 := hfr12 0; (try simp only [show (k43).sz = 4 from rfl, Nat.mul_one, Nat.add_zero] at hf12_0); have hx12_1 := hcc12 1 _ rfl; (try simp only [show (k43).sz = 4 from rfl, Nat.mul_one, Nat.add_zero] at hx12_1); have hf12_1 := hfr12 1; (try simp only [show (k43).sz = 4 from rfl, Nat.mul_one, Nat.add_zero] at hf12_1); have hx12_2 := hcc12 2 _ rfl; (try simp only [show (k43).sz = 4 from rfl, Nat.mul_one, Nat.add_zero] at hx12_2); have hf12_2 := hfr12 2; (try simp only [show (k43).sz = 4 from rfl, Nat.mul_one, Nat.add_zero] at hf12_2); have hx12_3 := hcc12 3 _ rfl; (try simp only [show (k43).sz = 4 from rfl, Nat.mul_one, Nat.add_zero] at hx12_3); have hf12_3 := hfr12 3; (try simp only [show (k43).sz = 4 from rfl, Nat.mul_one, Nat.add_zero] at hf12_3); clear hcl12 hcc12 hfr12 hM12 hoki12 hH12) | ((with_reducible refine gate_store (t := 43) (p := 21) rfl ?_); refine store_event (t := 43) (p := 21) (v := ?vo_w13) (w1 := ((((w11.setCell ⟨go10, (x4_1 : Int).toNat * 4, none⟩ (v155)).setCell ⟨go10, (x4_1 : Int).toNat * 4 + 1, none⟩ (.int .i64 t157)).setCell ⟨go10, (x4_1 : Int).toNat * 4 + 2, none⟩ (.int .i64 t158)).setCell ⟨go10, (x4_1 : Int).toNat * 4 + 3, none⟩ (.string t159))) ?hg ?ho ?hn ?hr ?_; (case ho => rfl); (case hg => rfl); (case hn => rfl); (case hr => obtain ⟨Ao0_, co0_, eo0_⟩ := Kd.R_slice HO156.out; first | (go_simp; done) | (go_simp; rfl)); intro w13 hw; have hg : w11.grownBy w13 (some go10) := (by rw [hw]; exact HP12.2); have hp_ : Kd.S k43 43 w13 w.heap.size (fun _ => True) (.slice (some ⟨go10, 0, none⟩) x3_1.length co10) y160 := (by rw [hw, Ny160.out]; exact HP12.1); clear HP12; replace HO_3 := Aside0.mk (hp_); replace HB := Aside0.mk ((by rw [hw]; exact below_set (below_set (below_set (below_set (HB.out) GB10.out) GB10.out) GB10.out) GB10.out : Below w.heap.size w w13)); clear HO156; clear hg hw hp_))
        go_roundg k1
        case measure => have := HK1.out; omega
        case rel => exact ⟨(y160), (wrap64 (x4_1 + 1)), (by first | rfl | (simp; done) | (simp [*]; done)), H', ⟨by have := HK1.out; omega⟩, ⟨by (with_reducible repeat (first | apply Kd.S_alloc | apply Kd.S_drewN | apply Kd.S_drew)); exact HO_3.out⟩, ⟨by exact hs_ HB.out⟩⟩
       rw [if_neg c9] at H
       exact absurd H (by simp)
      rw [if_neg c7] at H
      exact absurd H (by simp)
     rw [if_neg c6] at H
     have c6b0 : decide (x4_1 < (l0.length : Int)) = false := decide_eq_false c6
     clear c6
     obtain rfl := Option.some.inj H
     go_wp2
     go_ret
     exact ⟨_, by first | rfl | (simp [errW_none, errW_some] <;> rfl) | (simp [*, errW_none, errW_some] <;> rfl), by (with_reducible repeat (first | apply Kd.S_alloc | apply Kd.S_drewN | apply Kd.S_drew)); exact HO_3.out, by exact hs_ HB.out⟩
  rw [if_neg c3] at H
  exact absurd H (by simp)
 rw [if_neg c2] at H
 exact absurd H (by simp)
def laws_toChain.f (k : Nat) (a0_0 : Int) (l0_1 : List (S35)) : Option (Int × (List (S43))) := (laws_toAlarmS.f k l0_1).bind fun t164 => (some (a0_0, t164))
theorem laws_toChain.mono : ∀ a0 a1 k, LeO (laws_toChain.f k a0 a1) (laws_toChain.f (k + 1) a0 a1) := by
 intro a0 a1 k
 unfold laws_toChain.f
 repeat' first | (with_reducible first | exact laws_toAlarmS.mono _ _ | exact LeO.refl _ | exact LeO.none _ | refine LeO.ite ?_ ?_ | refine LeO.bind ?_ (fun _ => ?_)) | exact laws_toAlarmS.mono _ _
theorem laws_toChain.calls (k : Nat) (a0_0 : Int) (A0_1 : Option Addr) (c0_1 : Nat) (l0_1 : List (S35)) (r1 : Int) (r2 : List (S43)) (w : World) (hr0_1 : Kd.C k35 w A0_1 l0_1.length l0_1) (hc0_1 : l0_1.length ≤ c0_1) (h : laws_toChain.f k a0_0 l0_1 = some (r1, r2)) :
  Calls Try.prog 102 #[.agg #[.int .i64 a0_0, .slice A0_1 l0_1.length c0_1]] w fun e w' => ∃ v1_ : Value, e = .returned (.agg #[.int .i64 r1, v1_]) ∧ Kd.S k43 43 w' w.heap.size (fun _ => True) v1_ r2 ∧ Below w.heap.size w w' := by
 have hu119 := Try.underlying119
 have hu100 := Try.underlying100
 have HR0_1 := Aside0.mk hr0_1
 have HC0_1 := Aside0.mk hc0_1
 clear hr0_1 hc0_1
 have HB := Aside0.mk (Below.refl w.heap.size w)
 have H : ((laws_toAlarmS.f k l0_1).bind fun t164 => (some (a0_0, t164))) = some (r1, r2) := h
 clear h
 replace H := Option.bind_eq_some_iff.mp H
 obtain ⟨t164, A20, H⟩ := H
 have A2 := Aside0.mk A20
 clear A20
 simp only [Option.some.injEq, Prod.mk.injEq] at H
 obtain ⟨rfl, rfl⟩ := H
 go_enter Try.func102, Try.ntmps102
 go_wp2_with (first | ((with_reducible refine gd_ 1 rfl ?_); refine bv_ 1 #[.int .i64 a0_0, .slice A0_1 l0_1.length c0_1] 119 ?_; intro gb161 hg w3 hbox hb; have BK161 := Aside0.mk (hbox); have GW161 := Aside0.mk ((gw_ hg (hs_ HB.out))); replace HB := st_ HB hb; have GE161 := Ge_.mk GW161.out; clear hb hbox hg) | ((with_reducible refine gd_ 2 rfl ?_); refine bv_ 2 #[.int .i64 0, .slice none 0 0] 100 ?_; intro gb162 hg w4 hbox hb; have BK162 := Aside0.mk (hbox); have GW162 := Aside0.mk ((gw_ hg (hs_ HB.out))); replace HB := st_ HB hb; have GE162 := Ge_.mk GW162.out; have NB161_162 := Ne_.mk (nl_ BK161.out hg); replace BK161 := bk2_ BK161 hb; have NB162_161 := Ne_.mk (NB161_162.out.symm); clear hb hbox hg) | ((with_reducible refine gd_ 3 rfl ?_); refine bv_ 3 #[.int .i64 0, .slice none 0 0] 100 ?_; intro gb163 hg w5 hbox hb; have BK163 := Aside0.mk (hbox); have GW163 := Aside0.mk ((gw_ hg (hs_ HB.out))); replace HB := st_ HB hb; have GE163 := Ge_.mk GW163.out; have NB161_163 := Ne_.mk (nl_ BK161.out hg); replace BK161 := bk2_ BK161 hb; have NB163_161 := Ne_.mk (NB161_163.out.symm); have NB162_163 := Ne_.mk (nl_ BK162.out hg); replace BK162 := bk2_ BK162 hb; have NB163_162 := Ne_.mk (NB162_163.out.symm); clear hb hbox hg; have hnb6 := NB161_162.out; have hnc6 := NB162_161.out; have hnb7 := NB161_163.out; have hnc7 := NB163_161.out; obtain ⟨z8_0, z8_1, y8_0, y8_1⟩ := bc2_ BK161.out; have hnb9 := NB163_162.out; have hnc9 := NB162_163.out; obtain ⟨z10_0, z10_1, y10_0, y10_1⟩ := bc2_ BK163.out) | ((with_reducible refine gate_callee (f := 65) rfl ?_); refine gl_ (some 9) Try.func65 #[.slice A0_1 l0_1.length c0_1] ?_; (with_reducible refine (laws_toAlarmS.calls k _ _ l0_1 t164 _ ?side1 ?side2 A2.out).mono ?_); (case side1 => exact Kd.C_below HR0_1.out (hs_ HB.out)); (case side2 => exact HC0_1.out); rintro e w11 ⟨v165, rfl, ho0, hb⟩; refine ⟨_, rfl, ?_⟩; have HO166 := Aside0.mk (Kd.S_lower ho0 (below_size (hs_ HB.out))); replace BK161 := bk2_ BK161 hb; replace BK162 := bk2_ BK162 hb; replace BK163 := Aside0.mk (blk_below (g := gb163) (o := .cells #[.int .i64 a0_0, .slice none 0 0] 100 (0, 0)) (bp_ BK163.out) hb); replace HB := st_ HB hb; (try clear hb); (try clear hk); (try clear ho0); obtain ⟨Ao12, co12, eo12⟩ := Kd.S_slice HO166.out; subst eo12; obtain ⟨z13_0, z13_1, y13_0, y13_1⟩ := bc2_ BK163.out; obtain ⟨z14_0, z14_1, y14_0, y14_1⟩ := bc2_ BK162.out))
 refine bodyPost_ret (results_cell_row rfl _ _ gb162 100 #[.int .i64 a0_0, .slice Ao12 t164.length co12] (0, 0) _ rfl (bp_ BK162.out) Try.underlying100 rfl (by kernel_rfl)) rfl ?_
 exact ⟨_, by first | rfl | (simp [errW_none, errW_some] <;> rfl) | (simp [*, errW_none, errW_some] <;> rfl), by (with_reducible repeat (first | apply Kd.S_alloc | apply Kd.S_drewN | apply Kd.S_drew)); exact Kd.S_mono (sf_ gb162 (Kd.S_far (p := ⟨gb163, 1, none⟩) (Kd.S_types (Kd.S_types HO166.out BK163.out (by decide)) BK162.out (by decide)) (fun _ hk => hk.1.2) (.slice Ao12 t164.length co12)) (fun _ hk => hk.2)) (fun _ hk => trivial), by exact hs_ HB.out⟩
def laws_toChainS.l0 : Nat → List (S119) → List (S100) → Int → Option ((List (S100)))
 | 0, _, _, _ => none
 | k + 1, x0, x3, x4 => if x4 < (x0.length : Int) then (if 0 ≤ x4 then ((laws_toChain.f k ((rd_T119 x0 x4).f0) ((rd_T119 x0 x4).f1)).bind fun bt171 => (if x4 < (x3.length : Int) then (laws_toChainS.l0 k x0 (x3.set (x4 : Int).toNat (⟨bt171.1, bt171.2⟩ : S100)) (wrap64 (x4 + 1))) else (none))) else (none)) else (some x3)
def laws_toChainS.f (k : Nat) (l0 : List (S119)) : Option ((List (S100))) := if 0 ≤ (l0.length : Int) then (if ((l0.length : Int) : Int).toNat ≤ 8796093022208 then (laws_toChainS.l0 k l0 (List.replicate ((l0.length : Int) : Int).toNat z100) 0) else (none)) else (none)
theorem laws_toChainS.mono_l : ∀ k, (∀ y0 y1 y2, LeO (laws_toChainS.l0 k y0 y1 y2) (laws_toChainS.l0 (k + 1) y0 y1 y2))
 | 0 => fun _ _ _ r h => by simp [laws_toChainS.l0] at h
 | k + 1 => by
  have ih0 := laws_toChainS.mono_l k
  intro y0 y1 y2
  unfold laws_toChainS.l0
  repeat' first
  | (with_reducible exact ih0 _ _ _)
  | (with_reducible exact laws_toChain.mono _ _ _)
  | (with_reducible exact LeO.refl _)
  | (with_reducible exact LeO.none _)
  | (with_reducible refine LeO.ite ?_ ?_)
  | (with_reducible refine LeO.bind ?_ (fun _ => ?_))
  | exact ih0 _ _ _
  | exact laws_toChain.mono _ _ _
theorem laws_toChainS.mono : ∀ a0 k, LeO (laws_toChainS.f k a0) (laws_toChainS.f (k + 1) a0) := by
 intro a0 k
 have ih0 := laws_toChainS.mono_l k
 unfold laws_toChainS.f
 repeat' first | (with_reducible first | exact ih0 _ _ _ | exact laws_toChain.mono _ _ _ | exact LeO.refl _ | exact LeO.none _ | refine LeO.ite ?_ ?_ | refine LeO.bind ?_ (fun _ => ?_)) | exact ih0 _ _ _ | exact laws_toChain.mono _ _ _
theorem laws_toChainS.calls (k : Nat) (A0 : Option Addr) (c0 : Nat) (l0 : List (S119)) (r : List (S100)) (w : World) (hr0 : Kd.C k119 w A0 l0.length l0) (hc0 : l0.length ≤ c0) (h : laws_toChainS.f k l0 = some r) :
  Calls Try.prog 71 #[.slice A0 l0.length c0] w fun e w' => ∃ v0_ : Value, e = .returned (v0_) ∧ Kd.S k100 100 w' w.heap.size (fun _ => True) v0_ r ∧ Below w.heap.size w w' := by
 have hu119 := Try.underlying119
 have hu100 := Try.underlying100
 have HR0 := Aside0.mk hr0
 have HC0 := Aside0.mk hc0
 clear hr0 hc0
 have HB := Aside0.mk (Below.refl w.heap.size w)
 have H : (if 0 ≤ (l0.length : Int) then (if ((l0.length : Int) : Int).toNat ≤ 8796093022208 then (laws_toChainS.l0 k l0 (List.replicate ((l0.length : Int) : Int).toNat z100) 0) else (none)) else (none)) = some r := h
 clear h
 by_cases c2 : 0 ≤ (l0.length : Int)
 ·
  rw [if_pos c2] at H
  have c2b0 := eq_true c2
  have c2b1 := decide_eq_true c2
  clear c2
  by_cases c3 : ((l0.length : Int) : Int).toNat ≤ 8796093022208
  ·
   rw [if_pos c3] at H
   have c3b0 := eq_true c3
   have c3b1 := decide_eq_true c3
   clear c3
   obtain ⟨y167, hy167⟩ : ∃ y_ : List (S100), y_ = (List.replicate ((l0.length : Int) : Int).toNat z100) := ⟨_, rfl⟩
   replace H : (laws_toChainS.l0 k l0 y167 0) = some r := by first | (rw [hy167]; with_reducible exact H) | (have H2_ := (Option.bind_some _ _).symm.trans H; rw [hy167]; with_reducible exact H2_) | (have H2_ := (Option.bind_some _ _).symm.trans H; with_reducible exact H2_) | with_reducible exact H | (rw [hy167]; exact H) | exact H
   have Ny167 := Aside0.mk hy167
   clear hy167
   have H' := Aside0.mk H
   clear H
   go_enter Try.func71, Try.ntmps71
   go_wp2_with (first | ((with_reducible refine gd_ 7 rfl ?_); refine Kd.S_make k100 _ 100 rfl (N := 7) rfl 55 _ _ rfl (l0.length : Int) rfl rfl Try.underlying55 (.agg #[(.int .i64 0), (.slice none 0 0)]) 32 info100 rfl (by decide) (by omega) z100 (ok := fun _ => True) (okp := fun _ => True) (k100_mkM _ _ _ z100 (Kd.S_nil _ _ _ _ _)) (fun _ hk => hk) trivial (of_decide_eq_true (by with_reducible assumption)) (Nat.le_trans (Nat.mul_le_mul_right _ (of_decide_eq_true (by with_reducible assumption) : (l0.length : Int).toNat ≤ 8796093022208)) (by omega)) (Below.refl _ _) (Nat.le_refl _) ?_; intro v168 w4 ho5 hb hg_ hnew_; clear hg_ hnew_; (first | rw [← Ny167.out] at ho5 | (simp only [Int.reduceToNat] at ho5; rw [← Ny167.out] at ho5)); have HO169 := Aside0.mk (Kd.S_lower ho5 (below_size (hs_ HB.out))); have n1_ := st_ HB hb; clear HB; have HB := n1_; clear n1_; clear hb ho5))
   go_loopg [4] k (fun kq v4 w' => ∃ (x3_1 : List (S100)) (x4_1 : Int), v4 = .int .i64 x4_1 ∧ Aside0 (laws_toChainS.l0 kq l0 x3_1 x4_1 = some r) ∧ Aside0 (kq ≤ k) ∧ Aside0 (Kd.S k100 100 w' w.heap.size (fun _ => True) v168 x3_1) ∧ Aside0 (Below w.heap.size w w'))
   case atStart => exact ⟨(y167), (0), (by first | rfl | (simp; done) | (simp [*]; done)), H', ⟨Nat.le_refl _⟩, ⟨by (with_reducible repeat (first | apply Kd.S_alloc | apply Kd.S_drewN | apply Kd.S_drew)); exact HO169.out⟩, ⟨by exact hs_ HB.out⟩⟩
   case round =>
    clear H'
    try clear c2
    try clear c2b0
    try clear c2b1
    try clear p2
    try clear c3
    try clear c3b0
    try clear c3b1
    obtain ⟨x3_1, x4_1, rfl, HA, HK1, HO_3, HB⟩ := hrel
    cases gk with
    | zero => exact absurd HA.out (by simp [laws_toChainS.l0])
    | succ k1 =>
     have H := HA.out
     clear HA
     simp only [laws_toChainS.l0] at H
     by_cases c6 : x4_1 < (l0.length : Int)
     ·
      rw [if_pos c6] at H
      have c6b0 := decide_eq_true c6
      clear c6
      by_cases c7 : 0 ≤ x4_1
      ·
       rw [if_pos c7] at H
       have c7b0 := decide_eq_true c7
       clear c7
       replace H := Option.bind_eq_some_iff.mp H
       obtain ⟨⟨t171, t172⟩, A80, H⟩ := H
       have A8 := Aside0.mk A80
       clear A80
       by_cases c9 : x4_1 < (x3_1.length : Int)
       ·
        rw [if_pos c9] at H
        have c9b0 := decide_eq_true c9
        clear c9
        obtain ⟨y175, hy175⟩ : ∃ y_ : List (S100), y_ = (x3_1.set (x4_1 : Int).toNat (⟨t171, t172⟩ : S100)) := ⟨_, rfl⟩
        replace H : (laws_toChainS.l0 k1 l0 y175 (wrap64 (x4_1 + 1))) = some r := by first | (rw [hy175]; with_reducible exact H) | (have H2_ := (Option.bind_some _ _).symm.trans H; rw [hy175]; with_reducible exact H2_) | (have H2_ := (Option.bind_some _ _).symm.trans H; with_reducible exact H2_) | with_reducible exact H | (rw [hy175]; exact H) | exact H
        have Ny175 := Aside0.mk hy175
        clear hy175
        have H' := Aside0.mk H
        clear H
        have p170 : 0 ≤ (x4_1 : Int) := of_decide_eq_true (by with_reducible assumption)
        have q170 : x4_1 < (l0.length : Int) := of_decide_eq_true (by with_reducible assumption)
        obtain ⟨ad170, A170_1, c170_1, e170, hx170_0, hx170_1, hl170_1, hi170_1⟩ := at_T119 HR0.out x4_1 p170 q170
        cases e170
        replace hx170_0 := cl_ HB.out hx170_0
        replace hx170_1 := cl_ HB.out hx170_1
        have HR170_1 := Aside0.mk hi170_1
        have HC170_1 := Aside0.mk hl170_1
        clear hi170_1 hl170_1
        replace p170 := eq_true p170
        replace q170 := eq_true q170
        go_wp2_with (first | ((with_reducible refine gate_callee (f := 102) rfl ?_); refine gl_ (some 20) Try.func102 #[.agg #[.int .i64 ((rd_T119 l0 x4_1).f0), .slice A170_1 ((rd_T119 l0 x4_1).f1).length c170_1]] ?_; (with_reducible refine (laws_toChain.calls k1 ((rd_T119 l0 x4_1).f0) _ _ ((rd_T119 l0 x4_1).f1) t171 t172 _ ?side1 ?side2 A8.out).mono ?_); (case side1 => exact cp_ ((Kd.C_below HR170_1.out HB.out))); (case side2 => exact HC170_1.out); rintro e w11 ⟨v173, rfl, ho0, hb⟩; refine ⟨_, rfl, ?_⟩; obtain ⟨gbz173, hz173⟩ := Kd.S_name ho0; replace HO_3 := Aside0.mk (Kd.S_below (Kd.S_ltz hz173 (sp_ HO_3.out)) hb); have HO174 := Aside0.mk (Kd.S_lower (Kd.S_gez hz173 ho0) (below_size (hs_ HB.out))); replace HB := st_ HB hb; (try clear hb); (try clear hk); (try clear ho0); have p10 : 0 ≤ (x4_1 : Int) := of_decide_eq_true (by with_reducible assumption); have q10 : (x4_1 : Int) < ((x3_1.length : Int) : Int) := of_decide_eq_true (by with_reducible assumption); obtain ⟨go10, co10, eo10, gb10, gl10, cl10, HG10⟩ := Kd.S_form HO_3.out (by omega); (first | cases eo10 | (injection eo10 with ea_ en_ ec_; (first | subst ea_ | (injection ea_ with ea_; subst ea_)); subst ec_; clear en_)); have GB10 := Aside0.mk gb10; have GG10 := Aside0.mk HG10; clear gb10 gl10 HG10; obtain ⟨_, ce10, hcl10, hM10, hcc10, hfr10, _, _⟩ := Kd.S_elem HO_3.out z100 (x4_1 : Int) p10 q10; obtain ⟨ve10_1, rfl, ge10_1⟩ := k100_openM hM10; have hx10_0 : w11.cell? ⟨go10, (x4_1 : Int).toNat * 2, none⟩ = some (.int .i64 ((rd_T100 x3_1 x4_1).f0)) := hcc10 0 _ rfl; have hx10_1 : w11.cell? ⟨go10, (x4_1 : Int).toNat * 2 + 1, none⟩ = some (ve10_1) := hcc10 1 _ rfl; have hf10_0 : w11.frozen? ⟨go10, (x4_1 : Int).toNat * 2, none⟩ = false := hfr10 0; have hf10_1 : w11.frozen? ⟨go10, (x4_1 : Int).toNat * 2 + 1, none⟩ = false := hfr10 1; clear hcl10 hcc10 hfr10 hM10; replace p10 := eq_true p10; replace q10 := eq_true q10; have n_ := Aside0.mk (Kd.S_mono (ok' := (fun k_ => k_ < gbz173)) HO_3.out (fun k_ hk => hk.2)); clear HO_3; have HO_3 := n_; clear n_; obtain ⟨PXP14, hPXP14, hPlP14⟩ := Kd.S_fp (Kd.S_apart' (HO174.out) (Kd.S_typed HO_3.out) (by decide)); have HX12 := Aside0.mk (show Kd.S k100 100 w11 w.heap.size (fun k_ => ((fun _ => True)) k_ ∧ ¬ ((fun k_ => PXP14 k_)) k_) (.slice (some ⟨go10, 0, none⟩) x3_1.length co10) x3_1 from (Kd.S_mono (sp_ HO_3.out) (fun k_ hk => ⟨trivial, fun e_ => (fun ez_ => Nat.lt_irrefl _ (Nat.lt_of_lt_of_le hk (hPlP14 _ ez_).1.1.2)) e_⟩))); obtain ⟨oki12, ce12, hcl12, hM12, hcc12, hfr12, hoki12, hH12⟩ := Kd.S_elem HX12.out z100 (x4_1 : Int) (of_decide_eq_true (by with_reducible assumption)) (by have h_ : (x4_1 : Int) < ((x3_1.length : Int) : Int) := of_decide_eq_true (by with_reducible assumption); first | exact h_ | (have e_ := (Kd.S_reads' HO_3.out).1; omega) | simpa using h_); obtain ⟨ve12_1, rfl, ge12_1⟩ := k100_openM hM12; have HP12 := Kd.S_seg hH12 (of_decide_eq_true (by with_reducible assumption)) (by have h_ : (x4_1 : Int) < ((x3_1.length : Int) : Int) := of_decide_eq_true (by with_reducible assumption); first | exact h_ | (have e_ := (Kd.S_reads' HO_3.out).1; omega) | simpa using h_) (seg := [.int .i64 t171, v173]) (j := 0) (show 2 ≤ 2 from by decide) (x' := (⟨t171, t172⟩ : S100)) (k100_mkM _ _ _ (⟨t171, t172⟩ : S100) (Kd.S_mono hPXP14 (fun _ h_ => Or.inr (h_)))) (fun _ hk => hk) (fun k_ hk_ => ⟨trivial, fun e_ => ((hPlP14 k_ hk_).1.2) (by rw [e_]; rfl)⟩); have hx12_0 := hcc12 0 _ rfl; (try simp only [show (k100).sz = 2 from rfl, Nat.mul_one, Nat.add_zero] at hx12_0); have hf12_0 := hfr12 0; (try simp only [show (k100).sz = 2 from rfl, Nat.mul_one, Nat.add_zero] at hf12_0); have hx12_1 := hcc12 1 _ rfl; (try simp only [show (k100).sz = 2 from rfl, Nat.mul_one, Nat.add_zero] at hx12_1); have hf12_1 := hfr12 1; (try simp only [show (k100).sz = 2 from rfl, Nat.mul_one, Nat.add_zero] at hf12_1); clear hcl12 hcc12 hfr12 hM12 hoki12 hH12) | ((with_reducible refine gate_store (t := 100) (p := 21) rfl ?_); refine store_event (t := 100) (p := 21) (v := ?vo_w13) (w1 := ((w11.setCell ⟨go10, (x4_1 : Int).toNat * 2, none⟩ (.int .i64 t171)).setCell ⟨go10, (x4_1 : Int).toNat * 2 + 1, none⟩ (v173))) ?hg ?ho ?hn ?hr ?_; (case ho => rfl); (case hg => rfl); (case hn => rfl); (case hr => obtain ⟨Ao1_, co1_, eo1_⟩ := Kd.S_slice HO174.out; first | (go_simp; done) | (go_simp; rfl)); intro w13 hw; have hg : w11.grownBy w13 (some go10) := (by rw [hw]; exact HP12.2); have hp_ : Kd.S k100 100 w13 w.heap.size (fun _ => True) (.slice (some ⟨go10, 0, none⟩) x3_1.length co10) y175 := (by rw [hw, Ny175.out]; exact HP12.1); clear HP12; replace HO_3 := Aside0.mk (hp_); replace HB := Aside0.mk ((by rw [hw]; exact below_set (below_set (HB.out) GB10.out) GB10.out : Below w.heap.size w w13)); clear HO174; clear hg hw hp_))
        go_roundg k1
        case measure => have := HK1.out; omega
        case rel => exact ⟨(y175), (wrap64 (x4_1 + 1)), (by first | rfl | (simp; done) | (simp [*]; done)), H', ⟨by have := HK1.out; omega⟩, ⟨by (with_reducible repeat (first | apply Kd.S_alloc | apply Kd.S_drewN | apply Kd.S_drew)); exact HO_3.out⟩, ⟨by exact hs_ HB.out⟩⟩
       rw [if_neg c9] at H
       exact absurd H (by simp)
      rw [if_neg c7] at H
      exact absurd H (by simp)
     rw [if_neg c6] at H
     have c6b0 : decide (x4_1 < (l0.length : Int)) = false := decide_eq_false c6
     clear c6
     obtain rfl := Option.some.inj H
     go_wp2
     go_ret
     exact ⟨_, by first | rfl | (simp [errW_none, errW_some] <;> rfl) | (simp [*, errW_none, errW_some] <;> rfl), by (with_reducible repeat (first | apply Kd.S_alloc | apply Kd.S_drewN | apply Kd.S_drew)); exact HO_3.out, by exact hs_ HB.out⟩
  rw [if_neg c3] at H
  exact absurd H (by simp)
 rw [if_neg c2] at H
 exact absurd H (by simp)
def laws_toPart.f (k : Nat) (a0_0 : Int) (a0_1 : Int) (l0_2 : List (S119)) : Option (Int × Int × (List (S100))) := (laws_toChainS.f k l0_2).bind fun t179 => (some (a0_0, a0_1, t179))
theorem laws_toPart.mono : ∀ a0 a1 a2 k, LeO (laws_toPart.f k a0 a1 a2) (laws_toPart.f (k + 1) a0 a1 a2) := by
 intro a0 a1 a2 k
 unfold laws_toPart.f
 repeat' first | (with_reducible first | exact laws_toChainS.mono _ _ | exact LeO.refl _ | exact LeO.none _ | refine LeO.ite ?_ ?_ | refine LeO.bind ?_ (fun _ => ?_)) | exact laws_toChainS.mono _ _
theorem laws_toPart.calls (k : Nat) (a0_0 : Int) (a0_1 : Int) (A0_2 : Option Addr) (c0_2 : Nat) (l0_2 : List (S119)) (r1 : Int) (r2 : Int) (r3 : List (S100)) (w : World) (hr0_2 : Kd.C k119 w A0_2 l0_2.length l0_2) (hc0_2 : l0_2.length ≤ c0_2) (h : laws_toPart.f k a0_0 a0_1 l0_2 = some (r1, r2, r3)) :
  Calls Try.prog 27 #[.agg #[.int .i64 a0_0, .int .i64 a0_1, .slice A0_2 l0_2.length c0_2]] w fun e w' => ∃ v2_ : Value, e = .returned (.agg #[.int .i64 r1, .int .i64 r2, v2_]) ∧ Kd.S k100 100 w' w.heap.size (fun _ => True) v2_ r3 ∧ Below w.heap.size w w' := by
 have hu52 := Try.underlying52
 have hu57 := Try.underlying57
 have HR0_2 := Aside0.mk hr0_2
 have HC0_2 := Aside0.mk hc0_2
 clear hr0_2 hc0_2
 have HB := Aside0.mk (Below.refl w.heap.size w)
 have H : ((laws_toChainS.f k l0_2).bind fun t179 => (some (a0_0, a0_1, t179))) = some (r1, r2, r3) := h
 clear h
 replace H := Option.bind_eq_some_iff.mp H
 obtain ⟨t179, A20, H⟩ := H
 have A2 := Aside0.mk A20
 clear A20
 simp only [Option.some.injEq, Prod.mk.injEq] at H
 obtain ⟨rfl, rfl, rfl⟩ := H
 go_enter Try.func27, Try.ntmps27
 go_wp2_with (first | ((with_reducible refine gd_ 1 rfl ?_); refine bv_ 1 #[.int .i64 a0_0, .int .i64 a0_1, .slice A0_2 l0_2.length c0_2] 52 ?_; intro gb176 hg w3 hbox hb; have BK176 := Aside0.mk (hbox); have GW176 := Aside0.mk ((gw_ hg (hs_ HB.out))); replace HB := st_ HB hb; have GE176 := Ge_.mk GW176.out; clear hb hbox hg) | ((with_reducible refine gd_ 2 rfl ?_); refine bv_ 2 #[.int .i64 0, .int .i64 0, .slice none 0 0] 57 ?_; intro gb177 hg w4 hbox hb; have BK177 := Aside0.mk (hbox); have GW177 := Aside0.mk ((gw_ hg (hs_ HB.out))); replace HB := st_ HB hb; have GE177 := Ge_.mk GW177.out; have NB176_177 := Ne_.mk (nl_ BK176.out hg); replace BK176 := bk2_ BK176 hb; have NB177_176 := Ne_.mk (NB176_177.out.symm); clear hb hbox hg) | ((with_reducible refine gd_ 3 rfl ?_); refine bv_ 3 #[.int .i64 0, .int .i64 0, .slice none 0 0] 57 ?_; intro gb178 hg w5 hbox hb; have BK178 := Aside0.mk (hbox); have GW178 := Aside0.mk ((gw_ hg (hs_ HB.out))); replace HB := st_ HB hb; have GE178 := Ge_.mk GW178.out; have NB176_178 := Ne_.mk (nl_ BK176.out hg); replace BK176 := bk2_ BK176 hb; have NB178_176 := Ne_.mk (NB176_178.out.symm); have NB177_178 := Ne_.mk (nl_ BK177.out hg); replace BK177 := bk2_ BK177 hb; have NB178_177 := Ne_.mk (NB177_178.out.symm); clear hb hbox hg; have hnb6 := NB176_177.out; have hnc6 := NB177_176.out; have hnb7 := NB176_178.out; have hnc7 := NB178_176.out; obtain ⟨z8_0, z8_1, z8_2, y8_0, y8_1, y8_2⟩ := bc3_ BK176.out; have hnb9 := NB178_177.out; have hnc9 := NB177_178.out; obtain ⟨z10_0, z10_1, z10_2, y10_0, y10_1, y10_2⟩ := bc3_ BK178.out) | ((with_reducible refine gate_callee (f := 71) rfl ?_); refine gl_ (some 12) Try.func71 #[.slice A0_2 l0_2.length c0_2] ?_; (with_reducible refine (laws_toChainS.calls k _ _ l0_2 t179 _ ?side1 ?side2 A2.out).mono ?_); (case side1 => exact Kd.C_below HR0_2.out (hs_ HB.out)); (case side2 => exact HC0_2.out); rintro e w11 ⟨v180, rfl, ho0, hb⟩; refine ⟨_, rfl, ?_⟩; obtain ⟨gbz180, hz180⟩ := Kd.S_name ho0; have HO181 := Aside0.mk (Kd.S_lower (Kd.S_gez hz180 ho0) (below_size (hs_ HB.out))); replace BK176 := bk2_ BK176 hb; replace BK177 := bk2_ BK177 hb; replace BK178 := Aside0.mk (blk_below (g := gb178) (o := .cells #[.int .i64 a0_0, .int .i64 a0_1, .slice none 0 0] 57 (0, 0)) (bp_ BK178.out) hb); replace HB := st_ HB hb; (try clear hb); (try clear hk); (try clear ho0); obtain ⟨Ao12, co12, eo12⟩ := Kd.S_slice HO181.out; subst eo12; obtain ⟨z13_0, z13_1, z13_2, y13_0, y13_1, y13_2⟩ := bc3_ BK178.out; obtain ⟨z14_0, z14_1, z14_2, y14_0, y14_1, y14_2⟩ := bc3_ BK177.out))
 refine bodyPost_ret (results_cell_row rfl _ _ gb177 57 #[.int .i64 a0_0, .int .i64 a0_1, .slice Ao12 t179.length co12] (0, 0) _ rfl (bp_ BK177.out) Try.underlying57 rfl (by kernel_rfl)) rfl ?_
 exact ⟨_, by first | rfl | (simp [errW_none, errW_some] <;> rfl) | (simp [*, errW_none, errW_some] <;> rfl), by (with_reducible repeat (first | apply Kd.S_alloc | apply Kd.S_drewN | apply Kd.S_drew)); exact Kd.S_mono (sf_ gb177 (Kd.S_far (p := ⟨gb178, 2, none⟩) (Kd.S_types (Kd.S_types HO181.out BK178.out (by decide)) BK177.out (by decide)) (fun _ hk => hk.1.2) (.slice Ao12 t179.length co12)) (fun _ hk => hk.2)) (fun _ hk => trivial), by exact hs_ HB.out⟩
def laws_toPartS.l0 : Nat → List (S52) → List (S57) → Int → Option ((List (S57)))
 | 0, _, _, _ => none
 | k + 1, x0, x3, x4 => if x4 < (x0.length : Int) then (if 0 ≤ x4 then ((laws_toPart.f k ((rd_T52 x0 x4).f0) ((rd_T52 x0 x4).f1) ((rd_T52 x0 x4).f2)).bind fun bt186 => (if x4 < (x3.length : Int) then (laws_toPartS.l0 k x0 (x3.set (x4 : Int).toNat (⟨bt186.1, bt186.2.1, bt186.2.2⟩ : S57)) (wrap64 (x4 + 1))) else (none))) else (none)) else (some x3)
def laws_toPartS.f (k : Nat) (l0 : List (S52)) : Option ((List (S57))) := if 0 ≤ (l0.length : Int) then (if ((l0.length : Int) : Int).toNat ≤ 7036874417766 then (laws_toPartS.l0 k l0 (List.replicate ((l0.length : Int) : Int).toNat z57) 0) else (none)) else (none)
theorem laws_toPartS.mono_l : ∀ k, (∀ y0 y1 y2, LeO (laws_toPartS.l0 k y0 y1 y2) (laws_toPartS.l0 (k + 1) y0 y1 y2))
 | 0 => fun _ _ _ r h => by simp [laws_toPartS.l0] at h
 | k + 1 => by
  have ih0 := laws_toPartS.mono_l k
  intro y0 y1 y2
  unfold laws_toPartS.l0
  repeat' first
  | (with_reducible exact ih0 _ _ _)
  | (with_reducible exact laws_toPart.mono _ _ _ _)
  | (with_reducible exact LeO.refl _)
  | (with_reducible exact LeO.none _)
  | (with_reducible refine LeO.ite ?_ ?_)
  | (with_reducible refine LeO.bind ?_ (fun _ => ?_))
  | exact ih0 _ _ _
  | exact laws_toPart.mono _ _ _ _
theorem laws_toPartS.mono : ∀ a0 k, LeO (laws_toPartS.f k a0) (laws_toPartS.f (k + 1) a0) := by
 intro a0 k
 have ih0 := laws_toPartS.mono_l k
 unfold laws_toPartS.f
 repeat' first | (with_reducible first | exact ih0 _ _ _ | exact laws_toPart.mono _ _ _ _ | exact LeO.refl _ | exact LeO.none _ | refine LeO.ite ?_ ?_ | refine LeO.bind ?_ (fun _ => ?_)) | exact ih0 _ _ _ | exact laws_toPart.mono _ _ _ _
theorem laws_toPartS.calls (k : Nat) (A0 : Option Addr) (c0 : Nat) (l0 : List (S52)) (r : List (S57)) (w : World) (hr0 : Kd.C k52 w A0 l0.length l0) (hc0 : l0.length ≤ c0) (h : laws_toPartS.f k l0 = some r) :
  Calls Try.prog 15 #[.slice A0 l0.length c0] w fun e w' => ∃ v0_ : Value, e = .returned (v0_) ∧ Kd.S k57 57 w' w.heap.size (fun _ => True) v0_ r ∧ Below w.heap.size w w' := by
 have hu52 := Try.underlying52
 have hu57 := Try.underlying57
 have HR0 := Aside0.mk hr0
 have HC0 := Aside0.mk hc0
 clear hr0 hc0
 have HB := Aside0.mk (Below.refl w.heap.size w)
 have H : (if 0 ≤ (l0.length : Int) then (if ((l0.length : Int) : Int).toNat ≤ 7036874417766 then (laws_toPartS.l0 k l0 (List.replicate ((l0.length : Int) : Int).toNat z57) 0) else (none)) else (none)) = some r := h
 clear h
 by_cases c2 : 0 ≤ (l0.length : Int)
 ·
  rw [if_pos c2] at H
  have c2b0 := eq_true c2
  have c2b1 := decide_eq_true c2
  clear c2
  by_cases c3 : ((l0.length : Int) : Int).toNat ≤ 7036874417766
  ·
   rw [if_pos c3] at H
   have c3b0 := eq_true c3
   have c3b1 := decide_eq_true c3
   clear c3
   obtain ⟨y182, hy182⟩ : ∃ y_ : List (S57), y_ = (List.replicate ((l0.length : Int) : Int).toNat z57) := ⟨_, rfl⟩
   replace H : (laws_toPartS.l0 k l0 y182 0) = some r := by first | (rw [hy182]; with_reducible exact H) | (have H2_ := (Option.bind_some _ _).symm.trans H; rw [hy182]; with_reducible exact H2_) | (have H2_ := (Option.bind_some _ _).symm.trans H; with_reducible exact H2_) | with_reducible exact H | (rw [hy182]; exact H) | exact H
   have Ny182 := Aside0.mk hy182
   clear hy182
   have H' := Aside0.mk H
   clear H
   go_enter Try.func15, Try.ntmps15
   go_wp2_with (first | ((with_reducible refine gd_ 7 rfl ?_); refine Kd.S_make k57 _ 57 rfl (N := 7) rfl 27 _ _ rfl (l0.length : Int) rfl rfl Try.underlying27 (.agg #[(.int .i64 0), (.int .i64 0), (.slice none 0 0)]) 40 info57 rfl (by decide) (by omega) z57 (ok := fun _ => True) (okp := fun _ => True) (k57_mkM _ _ _ z57 (Kd.S_nil _ _ _ _ _)) (fun _ hk => hk) trivial (of_decide_eq_true (by with_reducible assumption)) (Nat.le_trans (Nat.mul_le_mul_right _ (of_decide_eq_true (by with_reducible assumption) : (l0.length : Int).toNat ≤ 7036874417766)) (by omega)) (Below.refl _ _) (Nat.le_refl _) ?_; intro v183 w4 ho5 hb hg_ hnew_; clear hg_ hnew_; (first | rw [← Ny182.out] at ho5 | (simp only [Int.reduceToNat] at ho5; rw [← Ny182.out] at ho5)); have HO184 := Aside0.mk (Kd.S_lower ho5 (below_size (hs_ HB.out))); have n1_ := st_ HB hb; clear HB; have HB := n1_; clear n1_; clear hb ho5))
   go_loopg [4] k (fun kq v4 w' => ∃ (x3_1 : List (S57)) (x4_1 : Int), v4 = .int .i64 x4_1 ∧ Aside0 (laws_toPartS.l0 kq l0 x3_1 x4_1 = some r) ∧ Aside0 (kq ≤ k) ∧ Aside0 (Kd.S k57 57 w' w.heap.size (fun _ => True) v183 x3_1) ∧ Aside0 (Below w.heap.size w w'))
   case atStart => exact ⟨(y182), (0), (by first | rfl | (simp; done) | (simp [*]; done)), H', ⟨Nat.le_refl _⟩, ⟨by (with_reducible repeat (first | apply Kd.S_alloc | apply Kd.S_drewN | apply Kd.S_drew)); exact HO184.out⟩, ⟨by exact hs_ HB.out⟩⟩
   case round =>
    clear H'
    try clear c1
    try clear c2
    try clear c2b0
    try clear c2b1
    try clear p2
    try clear c3
    try clear c3b0
    try clear c3b1
    obtain ⟨x3_1, x4_1, rfl, HA, HK1, HO_3, HB⟩ := hrel
    cases gk with
    | zero => exact absurd HA.out (by simp [laws_toPartS.l0])
    | succ k1 =>
     have H := HA.out
     clear HA
     simp only [laws_toPartS.l0] at H
     by_cases c6 : x4_1 < (l0.length : Int)
     ·
      rw [if_pos c6] at H
      have c6b0 := decide_eq_true c6
      clear c6
      by_cases c7 : 0 ≤ x4_1
      ·
       rw [if_pos c7] at H
       have c7b0 := decide_eq_true c7
       clear c7
       replace H := Option.bind_eq_some_iff.mp H
       obtain ⟨⟨t186, t187, t188⟩, A80, H⟩ := H
       have A8 := Aside0.mk A80
       clear A80
       by_cases c9 : x4_1 < (x3_1.length : Int)
       ·
        rw [if_pos c9] at H
        have c9b0 := decide_eq_true c9
        clear c9
        obtain ⟨y191, hy191⟩ : ∃ y_ : List (S57), y_ = (x3_1.set (x4_1 : Int).toNat (⟨t186, t187, t188⟩ : S57)) := ⟨_, rfl⟩
        replace H : (laws_toPartS.l0 k1 l0 y191 (wrap64 (x4_1 + 1))) = some r := by first | (rw [hy191]; with_reducible exact H) | (have H2_ := (Option.bind_some _ _).symm.trans H; rw [hy191]; with_reducible exact H2_) | (have H2_ := (Option.bind_some _ _).symm.trans H; with_reducible exact H2_) | with_reducible exact H | (rw [hy191]; exact H) | exact H
        have Ny191 := Aside0.mk hy191
        clear hy191
        have H' := Aside0.mk H
        clear H
        have p185 : 0 ≤ (x4_1 : Int) := of_decide_eq_true (by with_reducible assumption)
        have q185 : x4_1 < (l0.length : Int) := of_decide_eq_true (by with_reducible assumption)
        obtain ⟨ad185, A185_2, c185_2, e185, hx185_0, hx185_1, hx185_2, hl185_2, hi185_2⟩ := at_T52 HR0.out x4_1 p185 q185
        cases e185
        replace hx185_0 := cl_ HB.out hx185_0
        replace hx185_1 := cl_ HB.out hx185_1
        replace hx185_2 := cl_ HB.out hx185_2
        have HR185_2 := Aside0.mk hi185_2
        have HC185_2 := Aside0.mk hl185_2
        clear hi185_2 hl185_2
        replace p185 := eq_true p185
        replace q185 := eq_true q185
        go_wp2_with (first | ((with_reducible refine gate_callee (f := 27) rfl ?_); refine gl_ (some 20) Try.func27 #[.agg #[.int .i64 ((rd_T52 l0 x4_1).f0), .int .i64 ((rd_T52 l0 x4_1).f1), .slice A185_2 ((rd_T52 l0 x4_1).f2).length c185_2]] ?_; (with_reducible refine (laws_toPart.calls k1 ((rd_T52 l0 x4_1).f0) ((rd_T52 l0 x4_1).f1) _ _ ((rd_T52 l0 x4_1).f2) t186 t187 t188 _ ?side1 ?side2 A8.out).mono ?_); (case side1 => exact cp_ ((Kd.C_below HR185_2.out HB.out))); (case side2 => exact HC185_2.out); rintro e w11 ⟨v189, rfl, ho0, hb⟩; refine ⟨_, rfl, ?_⟩; obtain ⟨gbz189, hz189⟩ := Kd.S_name ho0; replace HO_3 := Aside0.mk (Kd.S_below (Kd.S_ltz hz189 (sp_ HO_3.out)) hb); have HO190 := Aside0.mk (Kd.S_lower (Kd.S_gez hz189 ho0) (below_size (hs_ HB.out))); replace HB := st_ HB hb; (try clear hb); (try clear hk); (try clear ho0); have p10 : 0 ≤ (x4_1 : Int) := of_decide_eq_true (by with_reducible assumption); have q10 : (x4_1 : Int) < ((x3_1.length : Int) : Int) := of_decide_eq_true (by with_reducible assumption); obtain ⟨go10, co10, eo10, gb10, gl10, cl10, HG10⟩ := Kd.S_form HO_3.out (by omega); (first | cases eo10 | (injection eo10 with ea_ en_ ec_; (first | subst ea_ | (injection ea_ with ea_; subst ea_)); subst ec_; clear en_)); have GB10 := Aside0.mk gb10; have GG10 := Aside0.mk HG10; clear gb10 gl10 HG10; obtain ⟨_, ce10, hcl10, hM10, hcc10, hfr10, _, _⟩ := Kd.S_elem HO_3.out z57 (x4_1 : Int) p10 q10; obtain ⟨ve10_2, rfl, ge10_2⟩ := k57_openM hM10; have hx10_0 : w11.cell? ⟨go10, (x4_1 : Int).toNat * 3, none⟩ = some (.int .i64 ((rd_T57 x3_1 x4_1).f0)) := hcc10 0 _ rfl; have hx10_1 : w11.cell? ⟨go10, (x4_1 : Int).toNat * 3 + 1, none⟩ = some (.int .i64 ((rd_T57 x3_1 x4_1).f1)) := hcc10 1 _ rfl; have hx10_2 : w11.cell? ⟨go10, (x4_1 : Int).toNat * 3 + 2, none⟩ = some (ve10_2) := hcc10 2 _ rfl; have hf10_0 : w11.frozen? ⟨go10, (x4_1 : Int).toNat * 3, none⟩ = false := hfr10 0; have hf10_1 : w11.frozen? ⟨go10, (x4_1 : Int).toNat * 3 + 1, none⟩ = false := hfr10 1; have hf10_2 : w11.frozen? ⟨go10, (x4_1 : Int).toNat * 3 + 2, none⟩ = false := hfr10 2; clear hcl10 hcc10 hfr10 hM10; replace p10 := eq_true p10; replace q10 := eq_true q10; have n_ := Aside0.mk (Kd.S_mono (ok' := (fun k_ => k_ < gbz189)) HO_3.out (fun k_ hk => hk.2)); clear HO_3; have HO_3 := n_; clear n_; obtain ⟨PXP14, hPXP14, hPlP14⟩ := Kd.S_fp (Kd.S_apart' (HO190.out) (Kd.S_typed HO_3.out) (by decide)); have HX12 := Aside0.mk (show Kd.S k57 57 w11 w.heap.size (fun k_ => ((fun _ => True)) k_ ∧ ¬ ((fun k_ => PXP14 k_)) k_) (.slice (some ⟨go10, 0, none⟩) x3_1.length co10) x3_1 from (Kd.S_mono (sp_ HO_3.out) (fun k_ hk => ⟨trivial, fun e_ => (fun ez_ => Nat.lt_irrefl _ (Nat.lt_of_lt_of_le hk (hPlP14 _ ez_).1.1.2)) e_⟩))); obtain ⟨oki12, ce12, hcl12, hM12, hcc12, hfr12, hoki12, hH12⟩ := Kd.S_elem HX12.out z57 (x4_1 : Int) (of_decide_eq_true (by with_reducible assumption)) (by have h_ : (x4_1 : Int) < ((x3_1.length : Int) : Int) := of_decide_eq_true (by with_reducible assumption); first | exact h_ | (have e_ := (Kd.S_reads' HO_3.out).1; omega) | simpa using h_); obtain ⟨ve12_2, rfl, ge12_2⟩ := k57_openM hM12; have HP12 := Kd.S_seg hH12 (of_decide_eq_true (by with_reducible assumption)) (by have h_ : (x4_1 : Int) < ((x3_1.length : Int) : Int) := of_decide_eq_true (by with_reducible assumption); first | exact h_ | (have e_ := (Kd.S_reads' HO_3.out).1; omega) | simpa using h_) (seg := [.int .i64 t186, .int .i64 t187, v189]) (j := 0) (show 3 ≤ 3 from by decide) (x' := (⟨t186, t187, t188⟩ : S57)) (k57_mkM _ _ _ (⟨t186, t187, t188⟩ : S57) (Kd.S_mono hPXP14 (fun _ h_ => Or.inr (h_)))) (fun _ hk => hk) (fun k_ hk_ => ⟨trivial, fun e_ => ((hPlP14 k_ hk_).1.2) (by rw [e_]; rfl)⟩); have hx12_0 := hcc12 0 _ rfl; (try simp only [show (k57).sz = 3 from rfl, Nat.mul_one, Nat.add_zero] at hx12_0); have hf12_0 := hfr12 0; (try simp only [show (k57).sz = 3 from rfl, Nat.mul_one, Nat.add_zero] at hf12_0); have hx12_1 := hcc12 1 _ rfl; (try simp only [show (k57).sz = 3 from rfl, Nat.mul_one, Nat.add_zero] at hx12_1); have hf12_1 := hfr12 1; (try simp only [show (k57).sz = 3 from rfl, Nat.mul_one, Nat.add_zero] at hf12_1); have hx12_2 := hcc12 2 _ rfl; (try simp only [show (k57).sz = 3 from rfl, Nat.mul_one, Nat.add_zero] at hx12_2); have hf12_2 := hfr12 2; (try simp only [show (k57).sz = 3 from rfl, Nat.mul_one, Nat.add_zero] at hf12_2); clear hcl12 hcc12 hfr12 hM12 hoki12 hH12) | ((with_reducible refine gate_store (t := 57) (p := 21) rfl ?_); refine store_event (t := 57) (p := 21) (v := ?vo_w13) (w1 := (((w11.setCell ⟨go10, (x4_1 : Int).toNat * 3, none⟩ (.int .i64 t186)).setCell ⟨go10, (x4_1 : Int).toNat * 3 + 1, none⟩ (.int .i64 t187)).setCell ⟨go10, (x4_1 : Int).toNat * 3 + 2, none⟩ (v189))) ?hg ?ho ?hn ?hr ?_; (case ho => rfl); (case hg => rfl); (case hn => rfl); (case hr => obtain ⟨Ao2_, co2_, eo2_⟩ := Kd.S_slice HO190.out; first | (go_simp; done) | (go_simp; rfl)); intro w13 hw; have hg : w11.grownBy w13 (some go10) := (by rw [hw]; exact HP12.2); have hp_ : Kd.S k57 57 w13 w.heap.size (fun _ => True) (.slice (some ⟨go10, 0, none⟩) x3_1.length co10) y191 := (by rw [hw, Ny191.out]; exact HP12.1); clear HP12; replace HO_3 := Aside0.mk (hp_); replace HB := Aside0.mk ((by rw [hw]; exact below_set (below_set (below_set (HB.out) GB10.out) GB10.out) GB10.out : Below w.heap.size w w13)); clear HO190; clear hg hw hp_))
        go_roundg k1
        case measure => have := HK1.out; omega
        case rel => exact ⟨(y191), (wrap64 (x4_1 + 1)), (by first | rfl | (simp; done) | (simp [*]; done)), H', ⟨by have := HK1.out; omega⟩, ⟨by (with_reducible repeat (first | apply Kd.S_alloc | apply Kd.S_drewN | apply Kd.S_drew)); exact HO_3.out⟩, ⟨by exact hs_ HB.out⟩⟩
       rw [if_neg c9] at H
       exact absurd H (by simp)
      rw [if_neg c7] at H
      exact absurd H (by simp)
     rw [if_neg c6] at H
     have c6b0 : decide (x4_1 < (l0.length : Int)) = false := decide_eq_false c6
     clear c6
     obtain rfl := Option.some.inj H
     go_wp2
     go_ret
     exact ⟨_, by first | rfl | (simp [errW_none, errW_some] <;> rfl) | (simp [*, errW_none, errW_some] <;> rfl), by (with_reducible repeat (first | apply Kd.S_alloc | apply Kd.S_drewN | apply Kd.S_drew)); exact HO_3.out, by exact hs_ HB.out⟩
  rw [if_neg c3] at H
  exact absurd H (by simp)
 rw [if_neg c2] at H
 exact absurd H (by simp)
def laws_eqLabel.f (a0_0 : ByteArray) (a0_1 : ByteArray) (a1_0 : ByteArray) (a1_1 : ByteArray) : Option (Bool) := if a0_0.toList = a1_0.toList then (if a0_1.toList = a1_1.toList then (some true) else (none)) else (none)
theorem laws_eqLabel.calls (a0_0 : ByteArray) (a0_1 : ByteArray) (a1_0 : ByteArray) (a1_1 : ByteArray) (r : Bool) (w : World) (h : laws_eqLabel.f a0_0 a0_1 a1_0 a1_1 = some r) :
  Calls Try.prog 61 #[.agg #[.string a0_0, .string a0_1], .agg #[.string a1_0, .string a1_1]] w fun e w' => e = .returned (.bool r) ∧ Below w.heap.size w w' := by
 have hu88 := Try.underlying88
 have HB := Aside0.mk (Below.refl w.heap.size w)
 have H : (if a0_0.toList = a1_0.toList then (if a0_1.toList = a1_1.toList then (some true) else (none)) else (none)) = some r := h
 clear h
 by_cases c3 : a0_0.toList = a1_0.toList
 ·
  rw [if_pos c3] at H
  have c3b0 : (a0_0.toList == a1_0.toList) = true := beq_iff_eq.mpr c3
  have c3b1 : (a0_0.toList != a1_0.toList) = false := bne_eq_false_iff_eq.mpr c3
  clear c3
  by_cases c4 : a0_1.toList = a1_1.toList
  ·
   rw [if_pos c4] at H
   have c4b0 : (a0_1.toList == a1_1.toList) = true := beq_iff_eq.mpr c4
   have c4b1 : (a0_1.toList != a1_1.toList) = false := bne_eq_false_iff_eq.mpr c4
   clear c4
   obtain rfl := Option.some.inj H
   go_enter Try.func61, Try.ntmps61
   go_wp2_with (first | ((with_reducible refine gd_ 2 rfl ?_); refine bv_ 2 #[.string a0_0, .string a0_1] 88 ?_; intro gb211 hg w5 hbox hb; have BK211 := Aside0.mk (hbox); have GW211 := Aside0.mk ((gw_ hg (hs_ HB.out))); replace HB := st_ HB hb; have GE211 := Ge_.mk GW211.out; clear hb hbox hg) | ((with_reducible refine gd_ 3 rfl ?_); refine bv_ 3 #[.string a1_0, .string a1_1] 88 ?_; intro gb212 hg w6 hbox hb; have BK212 := Aside0.mk (hbox); have GW212 := Aside0.mk ((gw_ hg (hs_ HB.out))); replace HB := st_ HB hb; have GE212 := Ge_.mk GW212.out; have NB211_212 := Ne_.mk (nl_ BK211.out hg); replace BK211 := bk2_ BK211 hb; have NB212_211 := Ne_.mk (NB211_212.out.symm); clear hb hbox hg; have hnb7 := NB211_212.out; have hnc7 := NB212_211.out; obtain ⟨z8_0, z8_1, y8_0, y8_1⟩ := bc2_ BK211.out; obtain ⟨z9_0, z9_1, y9_0, y9_1⟩ := bc2_ BK212.out))
   go_ret
   exact an_ (by exact hs_ HB.out)
  rw [if_neg c4] at H
  exact absurd H (by simp)
 rw [if_neg c3] at H
 exact absurd H (by simp)
def laws_eqLabelS.l0 : Nat → List (S88) → List (S88) → Int → Option (Bool)
 | 0, _, _, _ => none
 | k + 1, x0, x1, x5 => if x5 < (x0.length : Int) then (if 0 ≤ x5 then (if x5 < (x1.length : Int) then ((laws_eqLabel.f ((rd_T88 x0 x5).f0) ((rd_T88 x0 x5).f1) ((rd_T88 x1 x5).f0) ((rd_T88 x1 x5).f1)).bind fun t215 => (if t215 = true then (laws_eqLabelS.l0 k x0 x1 (wrap64 (x5 + 1))) else (none))) else (none)) else (none)) else (some true)
def laws_eqLabelS.f (k : Nat) (l0 : List (S88)) (l1 : List (S88)) : Option (Bool) := if (l0.length : Int) = (l1.length : Int) then (laws_eqLabelS.l0 k l0 l1 0) else (none)
theorem laws_eqLabelS.mono_l : ∀ k, (∀ y0 y1 y2, LeO (laws_eqLabelS.l0 k y0 y1 y2) (laws_eqLabelS.l0 (k + 1) y0 y1 y2))
 | 0 => fun _ _ _ r h => by simp [laws_eqLabelS.l0] at h
 | k + 1 => by
  have ih0 := laws_eqLabelS.mono_l k
  intro y0 y1 y2
  unfold laws_eqLabelS.l0
  repeat' first
  | (with_reducible exact ih0 _ _ _)
  | (with_reducible exact LeO.refl _)
  | (with_reducible exact LeO.none _)
  | (with_reducible refine LeO.ite ?_ ?_)
  | (with_reducible refine LeO.bind ?_ (fun _ => ?_))
  | exact ih0 _ _ _
theorem laws_eqLabelS.mono : ∀ a0 a1 k, LeO (laws_eqLabelS.f k a0 a1) (laws_eqLabelS.f (k + 1) a0 a1) := by
 intro a0 a1 k
 have ih0 := laws_eqLabelS.mono_l k
 unfold laws_eqLabelS.f
 repeat' first | (with_reducible first | exact ih0 _ _ _ | exact LeO.refl _ | exact LeO.none _ | refine LeO.ite ?_ ?_ | refine LeO.bind ?_ (fun _ => ?_)) | exact ih0 _ _ _
def laws_eqLabelS.T6 : Bool × List (List Nat × List Nat) := (true, [([], []), ([], []), ([0, 1], [0, 1]), ([2], [2]), ([], []), ([], []), ([4, 5], [4, 5]), ([6], [6]), ([3, 7], [3, 7]), ([8], [8])])
def laws_eqLabelS.B6 : List Nat := [0, 0, 3, 7, 0, 0, 48, 112, 255, 511]
theorem laws_eqLabelS.tab6 : rtab .any (opsOf Try.f19 6) = laws_eqLabelS.T6 := by kernel_rfl
theorem laws_eqLabelS.bits6 : waitsOk laws_eqLabelS.T6.2 laws_eqLabelS.B6 = true := by kernel_rfl
theorem laws_eqLabelS.calls (k : Nat) (A0 : Option Addr) (c0 : Nat) (l0 : List (S88)) (A1 : Option Addr) (c1 : Nat) (l1 : List (S88)) (r : Bool) (w : World) (hr0 : Kd.C k88 w A0 l0.length l0) (hc0 : l0.length ≤ c0) (hr1 : Kd.C k88 w A1 l1.length l1) (hc1 : l1.length ≤ c1) (h : laws_eqLabelS.f k l0 l1 = some r) :
  Calls Try.prog 19 #[.slice A0 l0.length c0, .slice A1 l1.length c1] w fun e w' => e = .returned (.bool r) ∧ Below w.heap.size w w' := by
 have hu88 := Try.underlying88
 have HR0 := Aside0.mk hr0
 have HC0 := Aside0.mk hc0
 clear hr0 hc0
 have HR1 := Aside0.mk hr1
 have HC1 := Aside0.mk hc1
 clear hr1 hc1
 have HB := Aside0.mk (Below.refl w.heap.size w)
 have H : (if (l0.length : Int) = (l1.length : Int) then (laws_eqLabelS.l0 k l0 l1 0) else (none)) = some r := h
 clear h
 by_cases c3 : (l0.length : Int) = (l1.length : Int)
 ·
  rw [if_pos c3] at H
  have c3b0 : ((l0.length : Int) == (l1.length : Int)) = true := beq_iff_eq.mpr c3
  have c3b1 : ((l0.length : Int) != (l1.length : Int)) = false := bne_eq_false_iff_eq.mpr c3
  have c3b2 : (l0.length == l1.length) = true := by first | simpa using c3 | (simp at c3 ⊢; omega)
  clear c3
  have H' := Aside0.mk H
  clear H
  go_enter Try.func19, Try.ntmps19
  go_wp2
  go_loopg [5] k (fun kq v5 w' => ∃ (x5_1 : Int), v5 = .int .i64 x5_1 ∧ Aside0 (laws_eqLabelS.l0 kq l0 l1 x5_1 = some r) ∧ Aside0 (kq ≤ k) ∧ Aside0 (Below w.heap.size w w'))
  case atStart => exact ⟨(0), (by first | rfl | (simp; done) | (simp [*]; done)), H', ⟨Nat.le_refl _⟩, ⟨by exact hs_ HB.out⟩⟩
  case round =>
   clear H'
   try clear c1
   try clear p2
   try clear c3
   try clear c3b0
   try clear c3b1
   try clear c3b2
   obtain ⟨x5_1, rfl, HA, HK1, HB⟩ := hrel
   cases gk with
   | zero => exact absurd HA.out (by simp [laws_eqLabelS.l0])
   | succ k1 =>
    have H := HA.out
    clear HA
    simp only [laws_eqLabelS.l0] at H
    by_cases c4 : x5_1 < (l0.length : Int)
    ·
     rw [if_pos c4] at H
     have c4b0 := decide_eq_true c4
     clear c4
     by_cases c5 : 0 ≤ x5_1
     ·
      rw [if_pos c5] at H
      have c5b0 := decide_eq_true c5
      clear c5
      by_cases c6 : x5_1 < (l1.length : Int)
      ·
       rw [if_pos c6] at H
       have c6b0 := decide_eq_true c6
       clear c6
       replace H := Option.bind_eq_some_iff.mp H
       obtain ⟨t215, A70, H⟩ := H
       have A7 := Aside0.mk A70
       clear A70
       by_cases c8 : t215 = true
       ·
        subst c8
        rw [if_pos rfl] at H
        have H' := Aside0.mk H
        clear H
        try go_wp2
        replace HB := Aside0.mk (bd_ HB.out)
        have p213 : 0 ≤ (x5_1 : Int) := of_decide_eq_true (by with_reducible assumption)
        have q213 : x5_1 < (l0.length : Int) := of_decide_eq_true (by with_reducible assumption)
        obtain ⟨ad213, e213, hx213_0, hx213_1⟩ := at_T88 HR0.out x5_1 p213 q213
        have hw213_1 := hx213_1
        have hw213_0 := hx213_0
        cases e213
        replace hx213_0 := cl_ HB.out hx213_0
        replace hx213_1 := cl_ HB.out hx213_1
        replace p213 := eq_true p213
        replace q213 := eq_true q213
        have p214 : 0 ≤ (x5_1 : Int) := of_decide_eq_true (by with_reducible assumption)
        have q214 : x5_1 < (l1.length : Int) := of_decide_eq_true (by with_reducible assumption)
        obtain ⟨ad214, e214, hx214_0, hx214_1⟩ := at_T88 HR1.out x5_1 p214 q214
        have hw214_1 := hx214_1
        have hw214_0 := hx214_0
        cases e214
        replace hx214_0 := cl_ HB.out hx214_0
        replace hx214_1 := cl_ HB.out hx214_1
        replace p214 := eq_true p214
        replace q214 := eq_true q214
        refine start_ (n := 10) (S := fun w' => w'.cell? (ad213.add ((x5_1).toNat * 2)) = some (.string ((rd_T88 l0 x5_1).f0)) ∧ w'.cell? ⟨(ad213.add ((x5_1).toNat * 2)).block, (ad213.add ((x5_1).toNat * 2)).off + 1, none⟩ = some (.string ((rd_T88 l0 x5_1).f1)) ∧ w'.cell? (ad214.add ((x5_1).toNat * 2)) = some (.string ((rd_T88 l1 x5_1).f0)) ∧ w'.cell? ⟨(ad214.add ((x5_1).toNat * 2)).block, (ad214.add ((x5_1).toNat * 2)).off + 1, none⟩ = some (.string ((rd_T88 l1 x5_1).f1))) (ds := []) #[f_,f_,f_,f_,f_,f_,f_,f_,f_,f_] (by kernel_rfl) rfl rfl ⟨((HB.out.cell (World.block_lt_of_cell? w _ hw213_0)).trans hw213_0), ((HB.out.cell (World.block_lt_of_cell? w _ hw213_1)).trans hw213_1), ((HB.out.cell (World.block_lt_of_cell? w _ hw214_0)).trans hw214_0), ((HB.out.cell (World.block_lt_of_cell? w _ hw214_1)).trans hw214_1)⟩ (fun hHeld => ?_); refine with_tabW laws_eqLabelS.tab6 laws_eqLabelS.bits6 (fun HT_ HW_ => ?_)
        generalize wr.drew = w9 at HB hx213_0 hx213_1 hx214_0 hx214_1 hHeld ⊢
        refine pw_ 0 17 (b_ 1 9) rfl rfl HT_.out ?_
        refine pw_ 1 18 (b_ 2 8) rfl rfl HT_.out ?_
        refine pw_ 2 19 (b_ 3 7) rfl rfl HT_.out ?_
        refine pw_ 4 21 #[t_,t_,t_,f_,t_,f_,f_,f_,f_,f_] rfl rfl HT_.out ?_
        refine pw_ 5 22 #[t_,t_,t_,f_,t_,t_,f_,f_,f_,f_] rfl rfl HT_.out ?_
        refine pw_ 6 23 #[t_,t_,t_,f_,t_,t_,t_,f_,f_,f_] rfl rfl HT_.out ?_
        refine take_ (i := 3) (N := some 20) (v := ?_) (a' := ?_) #[t_,t_,t_,t_,t_,t_,t_,f_,f_,f_] rfl rfl (take_ofW HT_.out HW_.out (by kernel_rfl)) (fun _ _ _ h => h) (Or.inl ⟨by rfl, ?_⟩) hHeld ?_ ?_
        rotate_left
        ·
         rintro w' ⟨s0, s1, s2, s3⟩
         go_simp
         with_reducible rfl
        rotate_left
        ·
         simp only [fr_]
         rfl
        refine take_ (i := 7) (N := some 24) (v := ?_) (a' := ?_) #[t_,t_,t_,t_,t_,t_,t_,t_,f_,f_] rfl rfl (take_ofW HT_.out HW_.out (by kernel_rfl)) (fun _ _ _ h => h) (Or.inl ⟨by rfl, ?_⟩) hHeld ?_ ?_
        rotate_left
        ·
         rintro w' ⟨s0, s1, s2, s3⟩
         go_simp
         with_reducible rfl
        rotate_left
        ·
         simp only [fr_]
         rfl
        refine one_ (i := 8) (N := some 25) #[t_,t_,t_,t_,t_,t_,t_,t_,t_,f_] rfl rfl (one_of HT_.out (by kernel_rfl)) (by decide) (fun K hK => ?_)
        refine gs_ Try.func61 #[.agg #[.string ((rd_T88 l0 x5_1).f0), .string ((rd_T88 l0 x5_1).f1)], .agg #[.string ((rd_T88 l1 x5_1).f0), .string ((rd_T88 l1 x5_1).f1)]] ?_
        with_reducible refine (laws_eqLabel.calls ((rd_T88 l0 x5_1).f0) ((rd_T88 l0 x5_1).f1) ((rd_T88 l1 x5_1).f0) ((rd_T88 l1 x5_1).f1) true _ A7.out).mono ?_
        rintro e w10 ⟨rfl, hb⟩
        refine ⟨_, rfl, ?_⟩
        replace HB := st_ HB hb
        (try clear hb)
        (try clear hk)
        refine hK.out _ _ ⟨((HB.out.cell (World.block_lt_of_cell? w _ hw213_0)).trans hw213_0), ((HB.out.cell (World.block_lt_of_cell? w _ hw213_1)).trans hw213_1), ((HB.out.cell (World.block_lt_of_cell? w _ hw214_0)).trans hw214_0), ((HB.out.cell (World.block_lt_of_cell? w _ hw214_1)).trans hw214_1)⟩ (fun hHeld => ?_)
        clear hK K
        refine norm_ (a' := ?_) ?_ ?_
        rotate_left
        ·
         show Act.put _ (some 25) _ = _
         simp only [fr_]
         rfl
        refine pw_ 9 26 (b_ 10 0) rfl rfl HT_.out ?_
        refine done_ (done_of HT_.out (by kernel_rfl)) ?_
        try go_wp2
        go_roundg k1
        case measure => have := HK1.out; omega
        case rel => exact ⟨(wrap64 (x5_1 + 1)), (by first | rfl | (simp; done) | (simp [*]; done)), H', ⟨by have := HK1.out; omega⟩, ⟨by exact hs_ HB.out⟩⟩
       replace c8 := Bool.eq_false_iff.mpr c8
       subst c8
       rw [if_neg (show ¬ (false = true) by decide)] at H
       exact absurd H (by simp)
      rw [if_neg c6] at H
      exact absurd H (by simp)
     rw [if_neg c5] at H
     exact absurd H (by simp)
    rw [if_neg c4] at H
    have c4b0 : decide (x5_1 < (l0.length : Int)) = false := decide_eq_false c4
    clear c4
    obtain rfl := Option.some.inj H
    go_wp2
    go_ret
    exact an_ (by exact hs_ HB.out)
 rw [if_neg c3] at H
 exact absurd H (by simp)
def laws_eqAlarm.f (k : Nat) (l0_0 : List (S88)) (a0_1 : Int) (a0_2 : Int) (a0_3 : ByteArray) (l1_0 : List (S88)) (a1_1 : Int) (a1_2 : Int) (a1_3 : ByteArray) : Option (Bool) := (laws_eqLabelS.f k l0_0 l1_0).bind fun t218 => (if t218 = true then (if a0_1 = a1_1 then (if a0_2 = a1_2 then (if a0_3.toList = a1_3.toList then (some true) else (none)) else (none)) else (none)) else (none))
theorem laws_eqAlarm.mono : ∀ a0 a1 a2 a3 a4 a5 a6 a7 k, LeO (laws_eqAlarm.f k a0 a1 a2 a3 a4 a5 a6 a7) (laws_eqAlarm.f (k + 1) a0 a1 a2 a3 a4 a5 a6 a7) := by
 intro a0 a1 a2 a3 a4 a5 a6 a7 k
 unfold laws_eqAlarm.f
 repeat' first | (with_reducible first | exact laws_eqLabelS.mono _ _ _ | exact LeO.refl _ | exact LeO.none _ | refine LeO.ite ?_ ?_ | refine LeO.bind ?_ (fun _ => ?_)) | exact laws_eqLabelS.mono _ _ _
theorem laws_eqAlarm.calls (k : Nat) (A0_0 : Option Addr) (c0_0 : Nat) (l0_0 : List (S88)) (a0_1 : Int) (a0_2 : Int) (a0_3 : ByteArray) (A1_0 : Option Addr) (c1_0 : Nat) (l1_0 : List (S88)) (a1_1 : Int) (a1_2 : Int) (a1_3 : ByteArray) (r : Bool) (w : World) (hr0_0 : Kd.C k88 w A0_0 l0_0.length l0_0) (hc0_0 : l0_0.length ≤ c0_0) (hr1_0 : Kd.C k88 w A1_0 l1_0.length l1_0) (hc1_0 : l1_0.length ≤ c1_0) (h : laws_eqAlarm.f k l0_0 a0_1 a0_2 a0_3 l1_0 a1_1 a1_2 a1_3 = some r) :
  Calls Try.prog 34 #[.agg #[.slice A0_0 l0_0.length c0_0, .int .i64 a0_1, .int .i64 a0_2, .string a0_3], .agg #[.slice A1_0 l1_0.length c1_0, .int .i64 a1_1, .int .i64 a1_2, .string a1_3]] w fun e w' => e = .returned (.bool r) ∧ Below w.heap.size w w' := by
 have hu43 := Try.underlying43
 have HR0_0 := Aside0.mk hr0_0
 have HC0_0 := Aside0.mk hc0_0
 clear hr0_0 hc0_0
 have HR1_0 := Aside0.mk hr1_0
 have HC1_0 := Aside0.mk hc1_0
 clear hr1_0 hc1_0
 have HB := Aside0.mk (Below.refl w.heap.size w)
 have H : ((laws_eqLabelS.f k l0_0 l1_0).bind fun t218 => (if t218 = true then (if a0_1 = a1_1 then (if a0_2 = a1_2 then (if a0_3.toList = a1_3.toList then (some true) else (none)) else (none)) else (none)) else (none))) = some r := h
 clear h
 replace H := Option.bind_eq_some_iff.mp H
 obtain ⟨t218, A30, H⟩ := H
 have A3 := Aside0.mk A30
 clear A30
 by_cases c4 : t218 = true
 ·
  subst c4
  rw [if_pos rfl] at H
  by_cases c5 : a0_1 = a1_1
  ·
   rw [if_pos c5] at H
   have c5b0 : (a0_1 == a1_1) = true := beq_iff_eq.mpr c5
   have c5b1 : (a0_1 != a1_1) = false := bne_eq_false_iff_eq.mpr c5
   clear c5
   by_cases c6 : a0_2 = a1_2
   ·
    rw [if_pos c6] at H
    have c6b0 : (a0_2 == a1_2) = true := beq_iff_eq.mpr c6
    have c6b1 : (a0_2 != a1_2) = false := bne_eq_false_iff_eq.mpr c6
    clear c6
    by_cases c7 : a0_3.toList = a1_3.toList
    ·
     rw [if_pos c7] at H
     have c7b0 : (a0_3.toList == a1_3.toList) = true := beq_iff_eq.mpr c7
     have c7b1 : (a0_3.toList != a1_3.toList) = false := bne_eq_false_iff_eq.mpr c7
     clear c7
     obtain rfl := Option.some.inj H
     go_enter Try.func34, Try.ntmps34
     go_wp2_with (first | ((with_reducible refine gd_ 2 rfl ?_); refine bv_ 2 #[.slice A0_0 l0_0.length c0_0, .int .i64 a0_1, .int .i64 a0_2, .string a0_3] 43 ?_; intro gb216 hg w8 hbox hb; have BK216 := Aside0.mk (hbox); have GW216 := Aside0.mk ((gw_ hg (hs_ HB.out))); replace HB := st_ HB hb; have GE216 := Ge_.mk GW216.out; clear hb hbox hg) | ((with_reducible refine gd_ 3 rfl ?_); refine bv_ 3 #[.slice A1_0 l1_0.length c1_0, .int .i64 a1_1, .int .i64 a1_2, .string a1_3] 43 ?_; intro gb217 hg w9 hbox hb; have BK217 := Aside0.mk (hbox); have GW217 := Aside0.mk ((gw_ hg (hs_ HB.out))); replace HB := st_ HB hb; have GE217 := Ge_.mk GW217.out; have NB216_217 := Ne_.mk (nl_ BK216.out hg); replace BK216 := bk2_ BK216 hb; have NB217_216 := Ne_.mk (NB216_217.out.symm); clear hb hbox hg; have hnb10 := NB216_217.out; have hnc10 := NB217_216.out; obtain ⟨z11_0, z11_1, z11_2, z11_3, y11_0, y11_1, y11_2, y11_3⟩ := bc4_ BK216.out; obtain ⟨z12_0, z12_1, z12_2, z12_3, y12_0, y12_1, y12_2, y12_3⟩ := bc4_ BK217.out) | ((with_reducible refine gate_callee (f := 19) rfl ?_); refine gl_ (some 9) Try.func19 #[.slice A0_0 l0_0.length c0_0, .slice A1_0 l1_0.length c1_0] ?_; (with_reducible refine (laws_eqLabelS.calls k _ _ l0_0 _ _ l1_0 true _ ?side1 ?side2 ?side3 ?side4 A3.out).mono ?_); (case side1 => exact cp_ ((Kd.C_below HR0_0.out HB.out))); (case side2 => exact HC0_0.out); (case side3 => exact cp_ ((Kd.C_below HR1_0.out HB.out))); (case side4 => exact HC1_0.out); rintro e w13 ⟨rfl, hb⟩; refine ⟨_, rfl, ?_⟩; replace BK216 := bk2_ BK216 hb; replace BK217 := bk2_ BK217 hb; replace HB := st_ HB hb; (try clear hb); (try clear hk); obtain ⟨z14_0, z14_1, z14_2, z14_3, y14_0, y14_1, y14_2, y14_3⟩ := bc4_ BK216.out; obtain ⟨z15_0, z15_1, z15_2, z15_3, y15_0, y15_1, y15_2, y15_3⟩ := bc4_ BK217.out))
     go_ret
     exact an_ (by exact hs_ HB.out)
    rw [if_neg c7] at H
    exact absurd H (by simp)
   rw [if_neg c6] at H
   exact absurd H (by simp)
  rw [if_neg c5] at H
  exact absurd H (by simp)
 replace c4 := Bool.eq_false_iff.mpr c4
 subst c4
 rw [if_neg (show ¬ (false = true) by decide)] at H
 exact absurd H (by simp)
def laws_eqAlarmS.l0 : Nat → List (S43) → List (S43) → Int → Option (Bool)
 | 0, _, _, _ => none
 | k + 1, x0, x1, x5 => if x5 < (x0.length : Int) then (if 0 ≤ x5 then (if x5 < (x1.length : Int) then ((laws_eqAlarm.f k ((rd_T43 x0 x5).f0) ((rd_T43 x0 x5).f1) ((rd_T43 x0 x5).f2) ((rd_T43 x0 x5).f3) ((rd_T43 x1 x5).f0) ((rd_T43 x1 x5).f1) ((rd_T43 x1 x5).f2) ((rd_T43 x1 x5).f3)).bind fun t221 => (if t221 = true then (laws_eqAlarmS.l0 k x0 x1 (wrap64 (x5 + 1))) else (none))) else (none)) else (none)) else (some true)
def laws_eqAlarmS.f (k : Nat) (l0 : List (S43)) (l1 : List (S43)) : Option (Bool) := if (l0.length : Int) = (l1.length : Int) then (laws_eqAlarmS.l0 k l0 l1 0) else (none)
theorem laws_eqAlarmS.mono_l : ∀ k, (∀ y0 y1 y2, LeO (laws_eqAlarmS.l0 k y0 y1 y2) (laws_eqAlarmS.l0 (k + 1) y0 y1 y2))
 | 0 => fun _ _ _ r h => by simp [laws_eqAlarmS.l0] at h
 | k + 1 => by
  have ih0 := laws_eqAlarmS.mono_l k
  intro y0 y1 y2
  unfold laws_eqAlarmS.l0
  repeat' first
  | (with_reducible exact ih0 _ _ _)
  | (with_reducible exact laws_eqAlarm.mono _ _ _ _ _ _ _ _ _)
  | (with_reducible exact LeO.refl _)
  | (with_reducible exact LeO.none _)
  | (with_reducible refine LeO.ite ?_ ?_)
  | (with_reducible refine LeO.bind ?_ (fun _ => ?_))
  | exact ih0 _ _ _
  | exact laws_eqAlarm.mono _ _ _ _ _ _ _ _ _
theorem laws_eqAlarmS.mono : ∀ a0 a1 k, LeO (laws_eqAlarmS.f k a0 a1) (laws_eqAlarmS.f (k + 1) a0 a1) := by
 intro a0 a1 k
 have ih0 := laws_eqAlarmS.mono_l k
 unfold laws_eqAlarmS.f
 repeat' first | (with_reducible first | exact ih0 _ _ _ | exact laws_eqAlarm.mono _ _ _ _ _ _ _ _ _ | exact LeO.refl _ | exact LeO.none _ | refine LeO.ite ?_ ?_ | refine LeO.bind ?_ (fun _ => ?_)) | exact ih0 _ _ _ | exact laws_eqAlarm.mono _ _ _ _ _ _ _ _ _
def laws_eqAlarmS.T6 : Bool × List (List Nat × List Nat) := (true, [([], []), ([], []), ([0, 1], [0, 1]), ([2], [2]), ([], []), ([], []), ([4, 5], [4, 5]), ([6], [6]), ([3, 7], [3, 7]), ([8], [8])])
def laws_eqAlarmS.B6 : List Nat := [0, 0, 3, 7, 0, 0, 48, 112, 255, 511]
theorem laws_eqAlarmS.tab6 : rtab .any (opsOf Try.f52 6) = laws_eqAlarmS.T6 := by kernel_rfl
theorem laws_eqAlarmS.bits6 : waitsOk laws_eqAlarmS.T6.2 laws_eqAlarmS.B6 = true := by kernel_rfl
theorem laws_eqAlarmS.calls (k : Nat) (A0 : Option Addr) (c0 : Nat) (l0 : List (S43)) (A1 : Option Addr) (c1 : Nat) (l1 : List (S43)) (r : Bool) (w : World) (hr0 : Kd.C k43 w A0 l0.length l0) (hc0 : l0.length ≤ c0) (hr1 : Kd.C k43 w A1 l1.length l1) (hc1 : l1.length ≤ c1) (h : laws_eqAlarmS.f k l0 l1 = some r) :
  Calls Try.prog 52 #[.slice A0 l0.length c0, .slice A1 l1.length c1] w fun e w' => e = .returned (.bool r) ∧ Below w.heap.size w w' := by
 have hu43 := Try.underlying43
 have HR0 := Aside0.mk hr0
 have HC0 := Aside0.mk hc0
 clear hr0 hc0
 have HR1 := Aside0.mk hr1
 have HC1 := Aside0.mk hc1
 clear hr1 hc1
 have HB := Aside0.mk (Below.refl w.heap.size w)
 have H : (if (l0.length : Int) = (l1.length : Int) then (laws_eqAlarmS.l0 k l0 l1 0) else (none)) = some r := h
 clear h
 by_cases c3 : (l0.length : Int) = (l1.length : Int)
 ·
  rw [if_pos c3] at H
  have c3b0 : ((l0.length : Int) == (l1.length : Int)) = true := beq_iff_eq.mpr c3
  have c3b1 : ((l0.length : Int) != (l1.length : Int)) = false := bne_eq_false_iff_eq.mpr c3
  have c3b2 : (l0.length == l1.length) = true := by first | simpa using c3 | (simp at c3 ⊢; omega)
  clear c3
  have H' := Aside0.mk H
  clear H
  go_enter Try.func52, Try.ntmps52
  go_wp2
  go_loopg [5] k (fun kq v5 w' => ∃ (x5_1 : Int), v5 = .int .i64 x5_1 ∧ Aside0 (laws_eqAlarmS.l0 kq l0 l1 x5_1 = some r) ∧ Aside0 (kq ≤ k) ∧ Aside0 (Below w.heap.size w w'))
  case atStart => exact ⟨(0), (by first | rfl | (simp; done) | (simp [*]; done)), H', ⟨Nat.le_refl _⟩, ⟨by exact hs_ HB.out⟩⟩
  case round =>
   clear H'
   try clear c1
   try clear p2
   try clear c3
   try clear c3b0
   try clear c3b1
   try clear c3b2
   obtain ⟨x5_1, rfl, HA, HK1, HB⟩ := hrel
   cases gk with
   | zero => exact absurd HA.out (by simp [laws_eqAlarmS.l0])
   | succ k1 =>
    have H := HA.out
    clear HA
    simp only [laws_eqAlarmS.l0] at H
    by_cases c4 : x5_1 < (l0.length : Int)
    ·
     rw [if_pos c4] at H
     have c4b0 := decide_eq_true c4
     clear c4
     by_cases c5 : 0 ≤ x5_1
     ·
      rw [if_pos c5] at H
      have c5b0 := decide_eq_true c5
      clear c5
      by_cases c6 : x5_1 < (l1.length : Int)
      ·
       rw [if_pos c6] at H
       have c6b0 := decide_eq_true c6
       clear c6
       replace H := Option.bind_eq_some_iff.mp H
       obtain ⟨t221, A70, H⟩ := H
       have A7 := Aside0.mk A70
       clear A70
       by_cases c8 : t221 = true
       ·
        subst c8
        rw [if_pos rfl] at H
        have H' := Aside0.mk H
        clear H
        try go_wp2
        replace HB := Aside0.mk (bd_ HB.out)
        have p219 : 0 ≤ (x5_1 : Int) := of_decide_eq_true (by with_reducible assumption)
        have q219 : x5_1 < (l0.length : Int) := of_decide_eq_true (by with_reducible assumption)
        obtain ⟨ad219, A219_0, c219_0, e219, hx219_0, hx219_1, hx219_2, hx219_3, hl219_0, hi219_0⟩ := at_T43 HR0.out x5_1 p219 q219
        have hw219_3 := hx219_3
        have hw219_2 := hx219_2
        have hw219_1 := hx219_1
        have hw219_0 := hx219_0
        cases e219
        replace hx219_0 := cl_ HB.out hx219_0
        replace hx219_1 := cl_ HB.out hx219_1
        replace hx219_2 := cl_ HB.out hx219_2
        replace hx219_3 := cl_ HB.out hx219_3
        have HR219_0 := Aside0.mk hi219_0
        have HC219_0 := Aside0.mk hl219_0
        clear hi219_0 hl219_0
        replace p219 := eq_true p219
        replace q219 := eq_true q219
        have p220 : 0 ≤ (x5_1 : Int) := of_decide_eq_true (by with_reducible assumption)
        have q220 : x5_1 < (l1.length : Int) := of_decide_eq_true (by with_reducible assumption)
        obtain ⟨ad220, A220_0, c220_0, e220, hx220_0, hx220_1, hx220_2, hx220_3, hl220_0, hi220_0⟩ := at_T43 HR1.out x5_1 p220 q220
        have hw220_3 := hx220_3
        have hw220_2 := hx220_2
        have hw220_1 := hx220_1
        have hw220_0 := hx220_0
        cases e220
        replace hx220_0 := cl_ HB.out hx220_0
        replace hx220_1 := cl_ HB.out hx220_1
        replace hx220_2 := cl_ HB.out hx220_2
        replace hx220_3 := cl_ HB.out hx220_3
        have HR220_0 := Aside0.mk hi220_0
        have HC220_0 := Aside0.mk hl220_0
        clear hi220_0 hl220_0
        replace p220 := eq_true p220
        replace q220 := eq_true q220
        refine start_ (n := 10) (S := fun w' => w'.cell? (ad219.add ((x5_1).toNat * 4)) = some (.slice A219_0 ((rd_T43 l0 x5_1).f0).length c219_0) ∧ w'.cell? ⟨(ad219.add ((x5_1).toNat * 4)).block, (ad219.add ((x5_1).toNat * 4)).off + 1, none⟩ = some (.int .i64 ((rd_T43 l0 x5_1).f1)) ∧ w'.cell? ⟨(ad219.add ((x5_1).toNat * 4)).block, (ad219.add ((x5_1).toNat * 4)).off + 2, none⟩ = some (.int .i64 ((rd_T43 l0 x5_1).f2)) ∧ w'.cell? ⟨(ad219.add ((x5_1).toNat * 4)).block, (ad219.add ((x5_1).toNat * 4)).off + 3, none⟩ = some (.string ((rd_T43 l0 x5_1).f3)) ∧ w'.cell? (ad220.add ((x5_1).toNat * 4)) = some (.slice A220_0 ((rd_T43 l1 x5_1).f0).length c220_0) ∧ w'.cell? ⟨(ad220.add ((x5_1).toNat * 4)).block, (ad220.add ((x5_1).toNat * 4)).off + 1, none⟩ = some (.int .i64 ((rd_T43 l1 x5_1).f1)) ∧ w'.cell? ⟨(ad220.add ((x5_1).toNat * 4)).block, (ad220.add ((x5_1).toNat * 4)).off + 2, none⟩ = some (.int .i64 ((rd_T43 l1 x5_1).f2)) ∧ w'.cell? ⟨(ad220.add ((x5_1).toNat * 4)).block, (ad220.add ((x5_1).toNat * 4)).off + 3, none⟩ = some (.string ((rd_T43 l1 x5_1).f3))) (ds := []) #[f_,f_,f_,f_,f_,f_,f_,f_,f_,f_] (by kernel_rfl) rfl rfl ⟨((HB.out.cell (World.block_lt_of_cell? w _ hw219_0)).trans hw219_0), ((HB.out.cell (World.block_lt_of_cell? w _ hw219_1)).trans hw219_1), ((HB.out.cell (World.block_lt_of_cell? w _ hw219_2)).trans hw219_2), ((HB.out.cell (World.block_lt_of_cell? w _ hw219_3)).trans hw219_3), ((HB.out.cell (World.block_lt_of_cell? w _ hw220_0)).trans hw220_0), ((HB.out.cell (World.block_lt_of_cell? w _ hw220_1)).trans hw220_1), ((HB.out.cell (World.block_lt_of_cell? w _ hw220_2)).trans hw220_2), ((HB.out.cell (World.block_lt_of_cell? w _ hw220_3)).trans hw220_3)⟩ (fun hHeld => ?_); refine with_tabW laws_eqAlarmS.tab6 laws_eqAlarmS.bits6 (fun HT_ HW_ => ?_)
        generalize wr.drew = w9 at HB HR219_0 HR220_0 hx219_0 hx219_1 hx219_2 hx219_3 hx220_0 hx220_1 hx220_2 hx220_3 hHeld ⊢
        refine pw_ 0 17 (b_ 1 9) rfl rfl HT_.out ?_
        refine pw_ 1 18 (b_ 2 8) rfl rfl HT_.out ?_
        refine pw_ 2 19 (b_ 3 7) rfl rfl HT_.out ?_
        refine pw_ 4 21 #[t_,t_,t_,f_,t_,f_,f_,f_,f_,f_] rfl rfl HT_.out ?_
        refine pw_ 5 22 #[t_,t_,t_,f_,t_,t_,f_,f_,f_,f_] rfl rfl HT_.out ?_
        refine pw_ 6 23 #[t_,t_,t_,f_,t_,t_,t_,f_,f_,f_] rfl rfl HT_.out ?_
        refine take_ (i := 3) (N := some 20) (v := ?_) (a' := ?_) #[t_,t_,t_,t_,t_,t_,t_,f_,f_,f_] rfl rfl (take_ofW HT_.out HW_.out (by kernel_rfl)) (fun _ _ _ h => h) (Or.inl ⟨by rfl, ?_⟩) hHeld ?_ ?_
        rotate_left
        ·
         rintro w' ⟨s0, s1, s2, s3, s4, s5, s6, s7⟩
         go_simp
         with_reducible rfl
        rotate_left
        ·
         simp only [fr_]
         rfl
        refine take_ (i := 7) (N := some 24) (v := ?_) (a' := ?_) #[t_,t_,t_,t_,t_,t_,t_,t_,f_,f_] rfl rfl (take_ofW HT_.out HW_.out (by kernel_rfl)) (fun _ _ _ h => h) (Or.inl ⟨by rfl, ?_⟩) hHeld ?_ ?_
        rotate_left
        ·
         rintro w' ⟨s0, s1, s2, s3, s4, s5, s6, s7⟩
         go_simp
         with_reducible rfl
        rotate_left
        ·
         simp only [fr_]
         rfl
        refine one_ (i := 8) (N := some 25) #[t_,t_,t_,t_,t_,t_,t_,t_,t_,f_] rfl rfl (one_of HT_.out (by kernel_rfl)) (by decide) (fun K hK => ?_)
        refine gs_ Try.func34 #[.agg #[.slice A219_0 ((rd_T43 l0 x5_1).f0).length c219_0, .int .i64 ((rd_T43 l0 x5_1).f1), .int .i64 ((rd_T43 l0 x5_1).f2), .string ((rd_T43 l0 x5_1).f3)], .agg #[.slice A220_0 ((rd_T43 l1 x5_1).f0).length c220_0, .int .i64 ((rd_T43 l1 x5_1).f1), .int .i64 ((rd_T43 l1 x5_1).f2), .string ((rd_T43 l1 x5_1).f3)]] ?_
        with_reducible refine (laws_eqAlarm.calls k1 _ _ ((rd_T43 l0 x5_1).f0) ((rd_T43 l0 x5_1).f1) ((rd_T43 l0 x5_1).f2) ((rd_T43 l0 x5_1).f3) _ _ ((rd_T43 l1 x5_1).f0) ((rd_T43 l1 x5_1).f1) ((rd_T43 l1 x5_1).f2) ((rd_T43 l1 x5_1).f3) true _ ?side1 ?side2 ?side3 ?side4 A7.out).mono ?_
        (case side1 => exact cp_ ((Kd.C_below HR219_0.out HB.out)))
        (case side2 => exact HC219_0.out)
        (case side3 => exact cp_ ((Kd.C_below HR220_0.out HB.out)))
        (case side4 => exact HC220_0.out)
        rintro e w10 ⟨rfl, hb⟩
        refine ⟨_, rfl, ?_⟩
        replace HB := st_ HB hb
        (try clear hb)
        (try clear hk)
        refine hK.out _ _ ⟨((HB.out.cell (World.block_lt_of_cell? w _ hw219_0)).trans hw219_0), ((HB.out.cell (World.block_lt_of_cell? w _ hw219_1)).trans hw219_1), ((HB.out.cell (World.block_lt_of_cell? w _ hw219_2)).trans hw219_2), ((HB.out.cell (World.block_lt_of_cell? w _ hw219_3)).trans hw219_3), ((HB.out.cell (World.block_lt_of_cell? w _ hw220_0)).trans hw220_0), ((HB.out.cell (World.block_lt_of_cell? w _ hw220_1)).trans hw220_1), ((HB.out.cell (World.block_lt_of_cell? w _ hw220_2)).trans hw220_2), ((HB.out.cell (World.block_lt_of_cell? w _ hw220_3)).trans hw220_3)⟩ (fun hHeld => ?_)
        clear hK K
        refine norm_ (a' := ?_) ?_ ?_
        rotate_left
        ·
         show Act.put _ (some 25) _ = _
         simp only [fr_]
         rfl
        refine pw_ 9 26 (b_ 10 0) rfl rfl HT_.out ?_
        refine done_ (done_of HT_.out (by kernel_rfl)) ?_
        try go_wp2
        go_roundg k1
        case measure => have := HK1.out; omega
        case rel => exact ⟨(wrap64 (x5_1 + 1)), (by first | rfl | (simp; done) | (simp [*]; done)), H', ⟨by have := HK1.out; omega⟩, ⟨by exact hs_ HB.out⟩⟩
       replace c8 := Bool.eq_false_iff.mpr c8
       subst c8
       rw [if_neg (show ¬ (false = true) by decide)] at H
       exact absurd H (by simp)
      rw [if_neg c6] at H
      exact absurd H (by simp)
     rw [if_neg c5] at H
     exact absurd H (by simp)
    rw [if_neg c4] at H
    have c4b0 : decide (x5_1 < (l0.length : Int)) = false := decide_eq_false c4
    clear c4
    obtain rfl := Option.some.inj H
    go_wp2
    go_ret
    exact an_ (by exact hs_ HB.out)
 rw [if_neg c3] at H
 exact absurd H (by simp)
def laws_eqChain.f (k : Nat) (a0_0 : Int) (l0_1 : List (S43)) (a1_0 : Int) (l1_1 : List (S43)) : Option (Bool) := if a0_0 = a1_0 then ((laws_eqAlarmS.f k l0_1 l1_1).bind fun t224 => (if t224 = true then (some true) else (none))) else (none)
theorem laws_eqChain.mono : ∀ a0 a1 a2 a3 k, LeO (laws_eqChain.f k a0 a1 a2 a3) (laws_eqChain.f (k + 1) a0 a1 a2 a3) := by
 intro a0 a1 a2 a3 k
 unfold laws_eqChain.f
 repeat' first | (with_reducible first | exact laws_eqAlarmS.mono _ _ _ | exact LeO.refl _ | exact LeO.none _ | refine LeO.ite ?_ ?_ | refine LeO.bind ?_ (fun _ => ?_)) | exact laws_eqAlarmS.mono _ _ _
theorem laws_eqChain.calls (k : Nat) (a0_0 : Int) (A0_1 : Option Addr) (c0_1 : Nat) (l0_1 : List (S43)) (a1_0 : Int) (A1_1 : Option Addr) (c1_1 : Nat) (l1_1 : List (S43)) (r : Bool) (w : World) (hr0_1 : Kd.C k43 w A0_1 l0_1.length l0_1) (hc0_1 : l0_1.length ≤ c0_1) (hr1_1 : Kd.C k43 w A1_1 l1_1.length l1_1) (hc1_1 : l1_1.length ≤ c1_1) (h : laws_eqChain.f k a0_0 l0_1 a1_0 l1_1 = some r) :
  Calls Try.prog 105 #[.agg #[.int .i64 a0_0, .slice A0_1 l0_1.length c0_1], .agg #[.int .i64 a1_0, .slice A1_1 l1_1.length c1_1]] w fun e w' => e = .returned (.bool r) ∧ Below w.heap.size w w' := by
 have hu100 := Try.underlying100
 have HR0_1 := Aside0.mk hr0_1
 have HC0_1 := Aside0.mk hc0_1
 clear hr0_1 hc0_1
 have HR1_1 := Aside0.mk hr1_1
 have HC1_1 := Aside0.mk hc1_1
 clear hr1_1 hc1_1
 have HB := Aside0.mk (Below.refl w.heap.size w)
 have H : (if a0_0 = a1_0 then ((laws_eqAlarmS.f k l0_1 l1_1).bind fun t224 => (if t224 = true then (some true) else (none))) else (none)) = some r := h
 clear h
 by_cases c3 : a0_0 = a1_0
 ·
  rw [if_pos c3] at H
  have c3b0 : (a0_0 == a1_0) = true := beq_iff_eq.mpr c3
  have c3b1 : (a0_0 != a1_0) = false := bne_eq_false_iff_eq.mpr c3
  clear c3
  replace H := Option.bind_eq_some_iff.mp H
  obtain ⟨t224, A40, H⟩ := H
  have A4 := Aside0.mk A40
  clear A40
  by_cases c5 : t224 = true
  ·
   subst c5
   rw [if_pos rfl] at H
   obtain rfl := Option.some.inj H
   go_enter Try.func105, Try.ntmps105
   go_wp2_with (first | ((with_reducible refine gd_ 2 rfl ?_); refine bv_ 2 #[.int .i64 a0_0, .slice A0_1 l0_1.length c0_1] 100 ?_; intro gb222 hg w6 hbox hb; have BK222 := Aside0.mk (hbox); have GW222 := Aside0.mk ((gw_ hg (hs_ HB.out))); replace HB := st_ HB hb; have GE222 := Ge_.mk GW222.out; clear hb hbox hg) | ((with_reducible refine gd_ 3 rfl ?_); refine bv_ 3 #[.int .i64 a1_0, .slice A1_1 l1_1.length c1_1] 100 ?_; intro gb223 hg w7 hbox hb; have BK223 := Aside0.mk (hbox); have GW223 := Aside0.mk ((gw_ hg (hs_ HB.out))); replace HB := st_ HB hb; have GE223 := Ge_.mk GW223.out; have NB222_223 := Ne_.mk (nl_ BK222.out hg); replace BK222 := bk2_ BK222 hb; have NB223_222 := Ne_.mk (NB222_223.out.symm); clear hb hbox hg; have hnb8 := NB222_223.out; have hnc8 := NB223_222.out; obtain ⟨z9_0, z9_1, y9_0, y9_1⟩ := bc2_ BK222.out; obtain ⟨z10_0, z10_1, y10_0, y10_1⟩ := bc2_ BK223.out) | ((with_reducible refine gate_callee (f := 52) rfl ?_); refine gl_ (some 14) Try.func52 #[.slice A0_1 l0_1.length c0_1, .slice A1_1 l1_1.length c1_1] ?_; (with_reducible refine (laws_eqAlarmS.calls k _ _ l0_1 _ _ l1_1 true _ ?side1 ?side2 ?side3 ?side4 A4.out).mono ?_); (case side1 => exact cp_ ((Kd.C_below HR0_1.out HB.out))); (case side2 => exact HC0_1.out); (case side3 => exact cp_ ((Kd.C_below HR1_1.out HB.out))); (case side4 => exact HC1_1.out); rintro e w11 ⟨rfl, hb⟩; refine ⟨_, rfl, ?_⟩; replace BK222 := bk2_ BK222 hb; replace BK223 := bk2_ BK223 hb; replace HB := st_ HB hb; (try clear hb); (try clear hk)))
   go_ret
   exact an_ (by exact hs_ HB.out)
  replace c5 := Bool.eq_false_iff.mpr c5
  subst c5
  rw [if_neg (show ¬ (false = true) by decide)] at H
  exact absurd H (by simp)
 rw [if_neg c3] at H
 exact absurd H (by simp)
def laws_eqChainS.l0 : Nat → List (S100) → List (S100) → Int → Option (Bool)
 | 0, _, _, _ => none
 | k + 1, x0, x1, x5 => if x5 < (x0.length : Int) then (if 0 ≤ x5 then (if x5 < (x1.length : Int) then ((laws_eqChain.f k ((rd_T100 x0 x5).f0) ((rd_T100 x0 x5).f1) ((rd_T100 x1 x5).f0) ((rd_T100 x1 x5).f1)).bind fun t227 => (if t227 = true then (laws_eqChainS.l0 k x0 x1 (wrap64 (x5 + 1))) else (none))) else (none)) else (none)) else (some true)
def laws_eqChainS.f (k : Nat) (l0 : List (S100)) (l1 : List (S100)) : Option (Bool) := if (l0.length : Int) = (l1.length : Int) then (laws_eqChainS.l0 k l0 l1 0) else (none)
theorem laws_eqChainS.mono_l : ∀ k, (∀ y0 y1 y2, LeO (laws_eqChainS.l0 k y0 y1 y2) (laws_eqChainS.l0 (k + 1) y0 y1 y2))
 | 0 => fun _ _ _ r h => by simp [laws_eqChainS.l0] at h
 | k + 1 => by
  have ih0 := laws_eqChainS.mono_l k
  intro y0 y1 y2
  unfold laws_eqChainS.l0
  repeat' first
  | (with_reducible exact ih0 _ _ _)
  | (with_reducible exact laws_eqChain.mono _ _ _ _ _)
  | (with_reducible exact LeO.refl _)
  | (with_reducible exact LeO.none _)
  | (with_reducible refine LeO.ite ?_ ?_)
  | (with_reducible refine LeO.bind ?_ (fun _ => ?_))
  | exact ih0 _ _ _
  | exact laws_eqChain.mono _ _ _ _ _
theorem laws_eqChainS.mono : ∀ a0 a1 k, LeO (laws_eqChainS.f k a0 a1) (laws_eqChainS.f (k + 1) a0 a1) := by
 intro a0 a1 k
 have ih0 := laws_eqChainS.mono_l k
 unfold laws_eqChainS.f
 repeat' first | (with_reducible first | exact ih0 _ _ _ | exact laws_eqChain.mono _ _ _ _ _ | exact LeO.refl _ | exact LeO.none _ | refine LeO.ite ?_ ?_ | refine LeO.bind ?_ (fun _ => ?_)) | exact ih0 _ _ _ | exact laws_eqChain.mono _ _ _ _ _
def laws_eqChainS.T6 : Bool × List (List Nat × List Nat) := (true, [([], []), ([], []), ([0, 1], [0, 1]), ([2], [2]), ([], []), ([], []), ([4, 5], [4, 5]), ([6], [6]), ([3, 7], [3, 7]), ([8], [8])])
def laws_eqChainS.B6 : List Nat := [0, 0, 3, 7, 0, 0, 48, 112, 255, 511]
theorem laws_eqChainS.tab6 : rtab .any (opsOf Try.f74 6) = laws_eqChainS.T6 := by kernel_rfl
theorem laws_eqChainS.bits6 : waitsOk laws_eqChainS.T6.2 laws_eqChainS.B6 = true := by kernel_rfl
theorem laws_eqChainS.calls (k : Nat) (A0 : Option Addr) (c0 : Nat) (l0 : List (S100)) (A1 : Option Addr) (c1 : Nat) (l1 : List (S100)) (r : Bool) (w : World) (hr0 : Kd.C k100 w A0 l0.length l0) (hc0 : l0.length ≤ c0) (hr1 : Kd.C k100 w A1 l1.length l1) (hc1 : l1.length ≤ c1) (h : laws_eqChainS.f k l0 l1 = some r) :
  Calls Try.prog 74 #[.slice A0 l0.length c0, .slice A1 l1.length c1] w fun e w' => e = .returned (.bool r) ∧ Below w.heap.size w w' := by
 have hu100 := Try.underlying100
 have HR0 := Aside0.mk hr0
 have HC0 := Aside0.mk hc0
 clear hr0 hc0
 have HR1 := Aside0.mk hr1
 have HC1 := Aside0.mk hc1
 clear hr1 hc1
 have HB := Aside0.mk (Below.refl w.heap.size w)
 have H : (if (l0.length : Int) = (l1.length : Int) then (laws_eqChainS.l0 k l0 l1 0) else (none)) = some r := h
 clear h
 by_cases c3 : (l0.length : Int) = (l1.length : Int)
 ·
  rw [if_pos c3] at H
  have c3b0 : ((l0.length : Int) == (l1.length : Int)) = true := beq_iff_eq.mpr c3
  have c3b1 : ((l0.length : Int) != (l1.length : Int)) = false := bne_eq_false_iff_eq.mpr c3
  have c3b2 : (l0.length == l1.length) = true := by first | simpa using c3 | (simp at c3 ⊢; omega)
  clear c3
  have H' := Aside0.mk H
  clear H
  go_enter Try.func74, Try.ntmps74
  go_wp2
  go_loopg [5] k (fun kq v5 w' => ∃ (x5_1 : Int), v5 = .int .i64 x5_1 ∧ Aside0 (laws_eqChainS.l0 kq l0 l1 x5_1 = some r) ∧ Aside0 (kq ≤ k) ∧ Aside0 (Below w.heap.size w w'))
  case atStart => exact ⟨(0), (by first | rfl | (simp; done) | (simp [*]; done)), H', ⟨Nat.le_refl _⟩, ⟨by exact hs_ HB.out⟩⟩
  case round =>
   clear H'
   try clear c1
   try clear p2
   try clear c3
   try clear c3b0
   try clear c3b1
   try clear c3b2
   obtain ⟨x5_1, rfl, HA, HK1, HB⟩ := hrel
   cases gk with
   | zero => exact absurd HA.out (by simp [laws_eqChainS.l0])
   | succ k1 =>
    have H := HA.out
    clear HA
    simp only [laws_eqChainS.l0] at H
    by_cases c4 : x5_1 < (l0.length : Int)
    ·
     rw [if_pos c4] at H
     have c4b0 := decide_eq_true c4
     clear c4
     by_cases c5 : 0 ≤ x5_1
     ·
      rw [if_pos c5] at H
      have c5b0 := decide_eq_true c5
      clear c5
      by_cases c6 : x5_1 < (l1.length : Int)
      ·
       rw [if_pos c6] at H
       have c6b0 := decide_eq_true c6
       clear c6
       replace H := Option.bind_eq_some_iff.mp H
       obtain ⟨t227, A70, H⟩ := H
       have A7 := Aside0.mk A70
       clear A70
       by_cases c8 : t227 = true
       ·
        subst c8
        rw [if_pos rfl] at H
        have H' := Aside0.mk H
        clear H
        try go_wp2
        replace HB := Aside0.mk (bd_ HB.out)
        have p225 : 0 ≤ (x5_1 : Int) := of_decide_eq_true (by with_reducible assumption)
        have q225 : x5_1 < (l0.length : Int) := of_decide_eq_true (by with_reducible assumption)
        obtain ⟨ad225, A225_1, c225_1, e225, hx225_0, hx225_1, hl225_1, hi225_1⟩ := at_T100 HR0.out x5_1 p225 q225
        have hw225_1 := hx225_1
        have hw225_0 := hx225_0
        cases e225
        replace hx225_0 := cl_ HB.out hx225_0
        replace hx225_1 := cl_ HB.out hx225_1
        have HR225_1 := Aside0.mk hi225_1
        have HC225_1 := Aside0.mk hl225_1
        clear hi225_1 hl225_1
        replace p225 := eq_true p225
        replace q225 := eq_true q225
        have p226 : 0 ≤ (x5_1 : Int) := of_decide_eq_true (by with_reducible assumption)
        have q226 : x5_1 < (l1.length : Int) := of_decide_eq_true (by with_reducible assumption)
        obtain ⟨ad226, A226_1, c226_1, e226, hx226_0, hx226_1, hl226_1, hi226_1⟩ := at_T100 HR1.out x5_1 p226 q226
        have hw226_1 := hx226_1
        have hw226_0 := hx226_0
        cases e226
        replace hx226_0 := cl_ HB.out hx226_0
        replace hx226_1 := cl_ HB.out hx226_1
        have HR226_1 := Aside0.mk hi226_1
        have HC226_1 := Aside0.mk hl226_1
        clear hi226_1 hl226_1
        replace p226 := eq_true p226
        replace q226 := eq_true q226
        refine start_ (n := 10) (S := fun w' => w'.cell? (ad225.add ((x5_1).toNat * 2)) = some (.int .i64 ((rd_T100 l0 x5_1).f0)) ∧ w'.cell? ⟨(ad225.add ((x5_1).toNat * 2)).block, (ad225.add ((x5_1).toNat * 2)).off + 1, none⟩ = some (.slice A225_1 ((rd_T100 l0 x5_1).f1).length c225_1) ∧ w'.cell? (ad226.add ((x5_1).toNat * 2)) = some (.int .i64 ((rd_T100 l1 x5_1).f0)) ∧ w'.cell? ⟨(ad226.add ((x5_1).toNat * 2)).block, (ad226.add ((x5_1).toNat * 2)).off + 1, none⟩ = some (.slice A226_1 ((rd_T100 l1 x5_1).f1).length c226_1)) (ds := []) #[f_,f_,f_,f_,f_,f_,f_,f_,f_,f_] (by kernel_rfl) rfl rfl ⟨((HB.out.cell (World.block_lt_of_cell? w _ hw225_0)).trans hw225_0), ((HB.out.cell (World.block_lt_of_cell? w _ hw225_1)).trans hw225_1), ((HB.out.cell (World.block_lt_of_cell? w _ hw226_0)).trans hw226_0), ((HB.out.cell (World.block_lt_of_cell? w _ hw226_1)).trans hw226_1)⟩ (fun hHeld => ?_); refine with_tabW laws_eqChainS.tab6 laws_eqChainS.bits6 (fun HT_ HW_ => ?_)
        generalize wr.drew = w9 at HB HR225_1 HR226_1 hx225_0 hx225_1 hx226_0 hx226_1 hHeld ⊢
        refine pw_ 0 17 (b_ 1 9) rfl rfl HT_.out ?_
        refine pw_ 1 18 (b_ 2 8) rfl rfl HT_.out ?_
        refine pw_ 2 19 (b_ 3 7) rfl rfl HT_.out ?_
        refine pw_ 4 21 #[t_,t_,t_,f_,t_,f_,f_,f_,f_,f_] rfl rfl HT_.out ?_
        refine pw_ 5 22 #[t_,t_,t_,f_,t_,t_,f_,f_,f_,f_] rfl rfl HT_.out ?_
        refine pw_ 6 23 #[t_,t_,t_,f_,t_,t_,t_,f_,f_,f_] rfl rfl HT_.out ?_
        refine take_ (i := 3) (N := some 20) (v := ?_) (a' := ?_) #[t_,t_,t_,t_,t_,t_,t_,f_,f_,f_] rfl rfl (take_ofW HT_.out HW_.out (by kernel_rfl)) (fun _ _ _ h => h) (Or.inl ⟨by rfl, ?_⟩) hHeld ?_ ?_
        rotate_left
        ·
         rintro w' ⟨s0, s1, s2, s3⟩
         go_simp
         with_reducible rfl
        rotate_left
        ·
         simp only [fr_]
         rfl
        refine take_ (i := 7) (N := some 24) (v := ?_) (a' := ?_) #[t_,t_,t_,t_,t_,t_,t_,t_,f_,f_] rfl rfl (take_ofW HT_.out HW_.out (by kernel_rfl)) (fun _ _ _ h => h) (Or.inl ⟨by rfl, ?_⟩) hHeld ?_ ?_
        rotate_left
        ·
         rintro w' ⟨s0, s1, s2, s3⟩
         go_simp
         with_reducible rfl
        rotate_left
        ·
         simp only [fr_]
         rfl
        refine one_ (i := 8) (N := some 25) #[t_,t_,t_,t_,t_,t_,t_,t_,t_,f_] rfl rfl (one_of HT_.out (by kernel_rfl)) (by decide) (fun K hK => ?_)
        refine gs_ Try.func105 #[.agg #[.int .i64 ((rd_T100 l0 x5_1).f0), .slice A225_1 ((rd_T100 l0 x5_1).f1).length c225_1], .agg #[.int .i64 ((rd_T100 l1 x5_1).f0), .slice A226_1 ((rd_T100 l1 x5_1).f1).length c226_1]] ?_
        with_reducible refine (laws_eqChain.calls k1 ((rd_T100 l0 x5_1).f0) _ _ ((rd_T100 l0 x5_1).f1) ((rd_T100 l1 x5_1).f0) _ _ ((rd_T100 l1 x5_1).f1) true _ ?side1 ?side2 ?side3 ?side4 A7.out).mono ?_
        (case side1 => exact cp_ ((Kd.C_below HR225_1.out HB.out)))
        (case side2 => exact HC225_1.out)
        (case side3 => exact cp_ ((Kd.C_below HR226_1.out HB.out)))
        (case side4 => exact HC226_1.out)
        rintro e w10 ⟨rfl, hb⟩
        refine ⟨_, rfl, ?_⟩
        replace HB := st_ HB hb
        (try clear hb)
        (try clear hk)
        refine hK.out _ _ ⟨((HB.out.cell (World.block_lt_of_cell? w _ hw225_0)).trans hw225_0), ((HB.out.cell (World.block_lt_of_cell? w _ hw225_1)).trans hw225_1), ((HB.out.cell (World.block_lt_of_cell? w _ hw226_0)).trans hw226_0), ((HB.out.cell (World.block_lt_of_cell? w _ hw226_1)).trans hw226_1)⟩ (fun hHeld => ?_)
        clear hK K
        refine norm_ (a' := ?_) ?_ ?_
        rotate_left
        ·
         show Act.put _ (some 25) _ = _
         simp only [fr_]
         rfl
        refine pw_ 9 26 (b_ 10 0) rfl rfl HT_.out ?_
        refine done_ (done_of HT_.out (by kernel_rfl)) ?_
        try go_wp2
        go_roundg k1
        case measure => have := HK1.out; omega
        case rel => exact ⟨(wrap64 (x5_1 + 1)), (by first | rfl | (simp; done) | (simp [*]; done)), H', ⟨by have := HK1.out; omega⟩, ⟨by exact hs_ HB.out⟩⟩
       replace c8 := Bool.eq_false_iff.mpr c8
       subst c8
       rw [if_neg (show ¬ (false = true) by decide)] at H
       exact absurd H (by simp)
      rw [if_neg c6] at H
      exact absurd H (by simp)
     rw [if_neg c5] at H
     exact absurd H (by simp)
    rw [if_neg c4] at H
    have c4b0 : decide (x5_1 < (l0.length : Int)) = false := decide_eq_false c4
    clear c4
    obtain rfl := Option.some.inj H
    go_wp2
    go_ret
    exact an_ (by exact hs_ HB.out)
 rw [if_neg c3] at H
 exact absurd H (by simp)
def laws_eqPart.f (k : Nat) (a0_0 : Int) (a0_1 : Int) (l0_2 : List (S100)) (a1_0 : Int) (a1_1 : Int) (l1_2 : List (S100)) : Option (Bool) := if a0_0 = a1_0 then (if a0_1 = a1_1 then ((laws_eqChainS.f k l0_2 l1_2).bind fun t230 => (if t230 = true then (some true) else (none))) else (none)) else (none)
theorem laws_eqPart.mono : ∀ a0 a1 a2 a3 a4 a5 k, LeO (laws_eqPart.f k a0 a1 a2 a3 a4 a5) (laws_eqPart.f (k + 1) a0 a1 a2 a3 a4 a5) := by
 intro a0 a1 a2 a3 a4 a5 k
 unfold laws_eqPart.f
 repeat' first | (with_reducible first | exact laws_eqChainS.mono _ _ _ | exact LeO.refl _ | exact LeO.none _ | refine LeO.ite ?_ ?_ | refine LeO.bind ?_ (fun _ => ?_)) | exact laws_eqChainS.mono _ _ _
theorem laws_eqPart.calls (k : Nat) (a0_0 : Int) (a0_1 : Int) (A0_2 : Option Addr) (c0_2 : Nat) (l0_2 : List (S100)) (a1_0 : Int) (a1_1 : Int) (A1_2 : Option Addr) (c1_2 : Nat) (l1_2 : List (S100)) (r : Bool) (w : World) (hr0_2 : Kd.C k100 w A0_2 l0_2.length l0_2) (hc0_2 : l0_2.length ≤ c0_2) (hr1_2 : Kd.C k100 w A1_2 l1_2.length l1_2) (hc1_2 : l1_2.length ≤ c1_2) (h : laws_eqPart.f k a0_0 a0_1 l0_2 a1_0 a1_1 l1_2 = some r) :
  Calls Try.prog 29 #[.agg #[.int .i64 a0_0, .int .i64 a0_1, .slice A0_2 l0_2.length c0_2], .agg #[.int .i64 a1_0, .int .i64 a1_1, .slice A1_2 l1_2.length c1_2]] w fun e w' => e = .returned (.bool r) ∧ Below w.heap.size w w' := by
 have hu57 := Try.underlying57
 have HR0_2 := Aside0.mk hr0_2
 have HC0_2 := Aside0.mk hc0_2
 clear hr0_2 hc0_2
 have HR1_2 := Aside0.mk hr1_2
 have HC1_2 := Aside0.mk hc1_2
 clear hr1_2 hc1_2
 have HB := Aside0.mk (Below.refl w.heap.size w)
 have H : (if a0_0 = a1_0 then (if a0_1 = a1_1 then ((laws_eqChainS.f k l0_2 l1_2).bind fun t230 => (if t230 = true then (some true) else (none))) else (none)) else (none)) = some r := h
 clear h
 by_cases c3 : a0_0 = a1_0
 ·
  rw [if_pos c3] at H
  have c3b0 : (a0_0 == a1_0) = true := beq_iff_eq.mpr c3
  have c3b1 : (a0_0 != a1_0) = false := bne_eq_false_iff_eq.mpr c3
  clear c3
  by_cases c4 : a0_1 = a1_1
  ·
   rw [if_pos c4] at H
   have c4b0 : (a0_1 == a1_1) = true := beq_iff_eq.mpr c4
   have c4b1 : (a0_1 != a1_1) = false := bne_eq_false_iff_eq.mpr c4
   clear c4
   replace H := Option.bind_eq_some_iff.mp H
   obtain ⟨t230, A50, H⟩ := H
   have A5 := Aside0.mk A50
   clear A50
   by_cases c6 : t230 = true
   ·
    subst c6
    rw [if_pos rfl] at H
    obtain rfl := Option.some.inj H
    go_enter Try.func29, Try.ntmps29
    go_wp2_with (first | ((with_reducible refine gd_ 2 rfl ?_); refine bv_ 2 #[.int .i64 a0_0, .int .i64 a0_1, .slice A0_2 l0_2.length c0_2] 57 ?_; intro gb228 hg w7 hbox hb; have BK228 := Aside0.mk (hbox); have GW228 := Aside0.mk ((gw_ hg (hs_ HB.out))); replace HB := st_ HB hb; have GE228 := Ge_.mk GW228.out; clear hb hbox hg) | ((with_reducible refine gd_ 3 rfl ?_); refine bv_ 3 #[.int .i64 a1_0, .int .i64 a1_1, .slice A1_2 l1_2.length c1_2] 57 ?_; intro gb229 hg w8 hbox hb; have BK229 := Aside0.mk (hbox); have GW229 := Aside0.mk ((gw_ hg (hs_ HB.out))); replace HB := st_ HB hb; have GE229 := Ge_.mk GW229.out; have NB228_229 := Ne_.mk (nl_ BK228.out hg); replace BK228 := bk2_ BK228 hb; have NB229_228 := Ne_.mk (NB228_229.out.symm); clear hb hbox hg; have hnb9 := NB228_229.out; have hnc9 := NB229_228.out; obtain ⟨z10_0, z10_1, z10_2, y10_0, y10_1, y10_2⟩ := bc3_ BK228.out; obtain ⟨z11_0, z11_1, z11_2, y11_0, y11_1, y11_2⟩ := bc3_ BK229.out) | ((with_reducible refine gate_callee (f := 74) rfl ?_); refine gl_ (some 19) Try.func74 #[.slice A0_2 l0_2.length c0_2, .slice A1_2 l1_2.length c1_2] ?_; (with_reducible refine (laws_eqChainS.calls k _ _ l0_2 _ _ l1_2 true _ ?side1 ?side2 ?side3 ?side4 A5.out).mono ?_); (case side1 => exact cp_ ((Kd.C_below HR0_2.out HB.out))); (case side2 => exact HC0_2.out); (case side3 => exact cp_ ((Kd.C_below HR1_2.out HB.out))); (case side4 => exact HC1_2.out); rintro e w12 ⟨rfl, hb⟩; refine ⟨_, rfl, ?_⟩; replace BK228 := bk2_ BK228 hb; replace BK229 := bk2_ BK229 hb; replace HB := st_ HB hb; (try clear hb); (try clear hk)))
    go_ret
    exact an_ (by exact hs_ HB.out)
   replace c6 := Bool.eq_false_iff.mpr c6
   subst c6
   rw [if_neg (show ¬ (false = true) by decide)] at H
   exact absurd H (by simp)
  rw [if_neg c4] at H
  exact absurd H (by simp)
 rw [if_neg c3] at H
 exact absurd H (by simp)
def laws_eqPartS.l0 : Nat → List (S57) → List (S57) → Int → Option (Bool)
 | 0, _, _, _ => none
 | k + 1, x0, x1, x5 => if x5 < (x0.length : Int) then (if 0 ≤ x5 then (if x5 < (x1.length : Int) then ((laws_eqPart.f k ((rd_T57 x0 x5).f0) ((rd_T57 x0 x5).f1) ((rd_T57 x0 x5).f2) ((rd_T57 x1 x5).f0) ((rd_T57 x1 x5).f1) ((rd_T57 x1 x5).f2)).bind fun t233 => (if t233 = true then (laws_eqPartS.l0 k x0 x1 (wrap64 (x5 + 1))) else (none))) else (none)) else (none)) else (some true)
def laws_eqPartS.f (k : Nat) (l0 : List (S57)) (l1 : List (S57)) : Option (Bool) := if (l0.length : Int) = (l1.length : Int) then (laws_eqPartS.l0 k l0 l1 0) else (none)
theorem laws_eqPartS.mono_l : ∀ k, (∀ y0 y1 y2, LeO (laws_eqPartS.l0 k y0 y1 y2) (laws_eqPartS.l0 (k + 1) y0 y1 y2))
 | 0 => fun _ _ _ r h => by simp [laws_eqPartS.l0] at h
 | k + 1 => by
  have ih0 := laws_eqPartS.mono_l k
  intro y0 y1 y2
  unfold laws_eqPartS.l0
  repeat' first
  | (with_reducible exact ih0 _ _ _)
  | (with_reducible exact laws_eqPart.mono _ _ _ _ _ _ _)
  | (with_reducible exact LeO.refl _)
  | (with_reducible exact LeO.none _)
  | (with_reducible refine LeO.ite ?_ ?_)
  | (with_reducible refine LeO.bind ?_ (fun _ => ?_))
  | exact ih0 _ _ _
  | exact laws_eqPart.mono _ _ _ _ _ _ _
theorem laws_eqPartS.mono : ∀ a0 a1 k, LeO (laws_eqPartS.f k a0 a1) (laws_eqPartS.f (k + 1) a0 a1) := by
 intro a0 a1 k
 have ih0 := laws_eqPartS.mono_l k
 unfold laws_eqPartS.f
 repeat' first | (with_reducible first | exact ih0 _ _ _ | exact laws_eqPart.mono _ _ _ _ _ _ _ | exact LeO.refl _ | exact LeO.none _ | refine LeO.ite ?_ ?_ | refine LeO.bind ?_ (fun _ => ?_)) | exact ih0 _ _ _ | exact laws_eqPart.mono _ _ _ _ _ _ _
def laws_eqPartS.T6 : Bool × List (List Nat × List Nat) := (true, [([], []), ([], []), ([0, 1], [0, 1]), ([2], [2]), ([], []), ([], []), ([4, 5], [4, 5]), ([6], [6]), ([3, 7], [3, 7]), ([8], [8])])
def laws_eqPartS.B6 : List Nat := [0, 0, 3, 7, 0, 0, 48, 112, 255, 511]
theorem laws_eqPartS.tab6 : rtab .any (opsOf Try.f18 6) = laws_eqPartS.T6 := by kernel_rfl
theorem laws_eqPartS.bits6 : waitsOk laws_eqPartS.T6.2 laws_eqPartS.B6 = true := by kernel_rfl
theorem laws_eqPartS.calls (k : Nat) (A0 : Option Addr) (c0 : Nat) (l0 : List (S57)) (A1 : Option Addr) (c1 : Nat) (l1 : List (S57)) (r : Bool) (w : World) (hr0 : Kd.C k57 w A0 l0.length l0) (hc0 : l0.length ≤ c0) (hr1 : Kd.C k57 w A1 l1.length l1) (hc1 : l1.length ≤ c1) (h : laws_eqPartS.f k l0 l1 = some r) :
  Calls Try.prog 18 #[.slice A0 l0.length c0, .slice A1 l1.length c1] w fun e w' => e = .returned (.bool r) ∧ Below w.heap.size w w' := by
 have hu57 := Try.underlying57
 have HR0 := Aside0.mk hr0
 have HC0 := Aside0.mk hc0
 clear hr0 hc0
 have HR1 := Aside0.mk hr1
 have HC1 := Aside0.mk hc1
 clear hr1 hc1
 have HB := Aside0.mk (Below.refl w.heap.size w)
 have H : (if (l0.length : Int) = (l1.length : Int) then (laws_eqPartS.l0 k l0 l1 0) else (none)) = some r := h
 clear h
 by_cases c3 : (l0.length : Int) = (l1.length : Int)
 ·
  rw [if_pos c3] at H
  have c3b0 : ((l0.length : Int) == (l1.length : Int)) = true := beq_iff_eq.mpr c3
  have c3b1 : ((l0.length : Int) != (l1.length : Int)) = false := bne_eq_false_iff_eq.mpr c3
  have c3b2 : (l0.length == l1.length) = true := by first | simpa using c3 | (simp at c3 ⊢; omega)
  clear c3
  have H' := Aside0.mk H
  clear H
  go_enter Try.func18, Try.ntmps18
  go_wp2
  go_loopg [5] k (fun kq v5 w' => ∃ (x5_1 : Int), v5 = .int .i64 x5_1 ∧ Aside0 (laws_eqPartS.l0 kq l0 l1 x5_1 = some r) ∧ Aside0 (kq ≤ k) ∧ Aside0 (Below w.heap.size w w'))
  case atStart => exact ⟨(0), (by first | rfl | (simp; done) | (simp [*]; done)), H', ⟨Nat.le_refl _⟩, ⟨by exact hs_ HB.out⟩⟩
  case round =>
   clear H'
   try clear c1
   try clear p2
   try clear c3
   try clear c3b0
   try clear c3b1
   try clear c3b2
   obtain ⟨x5_1, rfl, HA, HK1, HB⟩ := hrel
   cases gk with
   | zero => exact absurd HA.out (by simp [laws_eqPartS.l0])
   | succ k1 =>
    have H := HA.out
    clear HA
    simp only [laws_eqPartS.l0] at H
    by_cases c4 : x5_1 < (l0.length : Int)
    ·
     rw [if_pos c4] at H
     have c4b0 := decide_eq_true c4
     clear c4
     by_cases c5 : 0 ≤ x5_1
     ·
      rw [if_pos c5] at H
      have c5b0 := decide_eq_true c5
      clear c5
      by_cases c6 : x5_1 < (l1.length : Int)
      ·
       rw [if_pos c6] at H
       have c6b0 := decide_eq_true c6
       clear c6
       replace H := Option.bind_eq_some_iff.mp H
       obtain ⟨t233, A70, H⟩ := H
       have A7 := Aside0.mk A70
       clear A70
       by_cases c8 : t233 = true
       ·
        subst c8
        rw [if_pos rfl] at H
        have H' := Aside0.mk H
        clear H
        try go_wp2
        replace HB := Aside0.mk (bd_ HB.out)
        have p231 : 0 ≤ (x5_1 : Int) := of_decide_eq_true (by with_reducible assumption)
        have q231 : x5_1 < (l0.length : Int) := of_decide_eq_true (by with_reducible assumption)
        obtain ⟨ad231, A231_2, c231_2, e231, hx231_0, hx231_1, hx231_2, hl231_2, hi231_2⟩ := at_T57 HR0.out x5_1 p231 q231
        have hw231_2 := hx231_2
        have hw231_1 := hx231_1
        have hw231_0 := hx231_0
        cases e231
        replace hx231_0 := cl_ HB.out hx231_0
        replace hx231_1 := cl_ HB.out hx231_1
        replace hx231_2 := cl_ HB.out hx231_2
        have HR231_2 := Aside0.mk hi231_2
        have HC231_2 := Aside0.mk hl231_2
        clear hi231_2 hl231_2
        replace p231 := eq_true p231
        replace q231 := eq_true q231
        have p232 : 0 ≤ (x5_1 : Int) := of_decide_eq_true (by with_reducible assumption)
        have q232 : x5_1 < (l1.length : Int) := of_decide_eq_true (by with_reducible assumption)
        obtain ⟨ad232, A232_2, c232_2, e232, hx232_0, hx232_1, hx232_2, hl232_2, hi232_2⟩ := at_T57 HR1.out x5_1 p232 q232
        have hw232_2 := hx232_2
        have hw232_1 := hx232_1
        have hw232_0 := hx232_0
        cases e232
        replace hx232_0 := cl_ HB.out hx232_0
        replace hx232_1 := cl_ HB.out hx232_1
        replace hx232_2 := cl_ HB.out hx232_2
        have HR232_2 := Aside0.mk hi232_2
        have HC232_2 := Aside0.mk hl232_2
        clear hi232_2 hl232_2
        replace p232 := eq_true p232
        replace q232 := eq_true q232
        refine start_ (n := 10) (S := fun w' => w'.cell? (ad231.add ((x5_1).toNat * 3)) = some (.int .i64 ((rd_T57 l0 x5_1).f0)) ∧ w'.cell? ⟨(ad231.add ((x5_1).toNat * 3)).block, (ad231.add ((x5_1).toNat * 3)).off + 1, none⟩ = some (.int .i64 ((rd_T57 l0 x5_1).f1)) ∧ w'.cell? ⟨(ad231.add ((x5_1).toNat * 3)).block, (ad231.add ((x5_1).toNat * 3)).off + 2, none⟩ = some (.slice A231_2 ((rd_T57 l0 x5_1).f2).length c231_2) ∧ w'.cell? (ad232.add ((x5_1).toNat * 3)) = some (.int .i64 ((rd_T57 l1 x5_1).f0)) ∧ w'.cell? ⟨(ad232.add ((x5_1).toNat * 3)).block, (ad232.add ((x5_1).toNat * 3)).off + 1, none⟩ = some (.int .i64 ((rd_T57 l1 x5_1).f1)) ∧ w'.cell? ⟨(ad232.add ((x5_1).toNat * 3)).block, (ad232.add ((x5_1).toNat * 3)).off + 2, none⟩ = some (.slice A232_2 ((rd_T57 l1 x5_1).f2).length c232_2)) (ds := []) #[f_,f_,f_,f_,f_,f_,f_,f_,f_,f_] (by kernel_rfl) rfl rfl ⟨((HB.out.cell (World.block_lt_of_cell? w _ hw231_0)).trans hw231_0), ((HB.out.cell (World.block_lt_of_cell? w _ hw231_1)).trans hw231_1), ((HB.out.cell (World.block_lt_of_cell? w _ hw231_2)).trans hw231_2), ((HB.out.cell (World.block_lt_of_cell? w _ hw232_0)).trans hw232_0), ((HB.out.cell (World.block_lt_of_cell? w _ hw232_1)).trans hw232_1), ((HB.out.cell (World.block_lt_of_cell? w _ hw232_2)).trans hw232_2)⟩ (fun hHeld => ?_); refine with_tabW laws_eqPartS.tab6 laws_eqPartS.bits6 (fun HT_ HW_ => ?_)
        generalize wr.drew = w9 at HB HR231_2 HR232_2 hx231_0 hx231_1 hx231_2 hx232_0 hx232_1 hx232_2 hHeld ⊢
        refine pw_ 0 17 (b_ 1 9) rfl rfl HT_.out ?_
        refine pw_ 1 18 (b_ 2 8) rfl rfl HT_.out ?_
        refine pw_ 2 19 (b_ 3 7) rfl rfl HT_.out ?_
        refine pw_ 4 21 #[t_,t_,t_,f_,t_,f_,f_,f_,f_,f_] rfl rfl HT_.out ?_
        refine pw_ 5 22 #[t_,t_,t_,f_,t_,t_,f_,f_,f_,f_] rfl rfl HT_.out ?_
        refine pw_ 6 23 #[t_,t_,t_,f_,t_,t_,t_,f_,f_,f_] rfl rfl HT_.out ?_
        refine take_ (i := 3) (N := some 20) (v := ?_) (a' := ?_) #[t_,t_,t_,t_,t_,t_,t_,f_,f_,f_] rfl rfl (take_ofW HT_.out HW_.out (by kernel_rfl)) (fun _ _ _ h => h) (Or.inl ⟨by rfl, ?_⟩) hHeld ?_ ?_
        rotate_left
        ·
         rintro w' ⟨s0, s1, s2, s3, s4, s5⟩
         go_simp
         with_reducible rfl
        rotate_left
        ·
         simp only [fr_]
         rfl
        refine take_ (i := 7) (N := some 24) (v := ?_) (a' := ?_) #[t_,t_,t_,t_,t_,t_,t_,t_,f_,f_] rfl rfl (take_ofW HT_.out HW_.out (by kernel_rfl)) (fun _ _ _ h => h) (Or.inl ⟨by rfl, ?_⟩) hHeld ?_ ?_
        rotate_left
        ·
         rintro w' ⟨s0, s1, s2, s3, s4, s5⟩
         go_simp
         with_reducible rfl
        rotate_left
        ·
         simp only [fr_]
         rfl
        refine one_ (i := 8) (N := some 25) #[t_,t_,t_,t_,t_,t_,t_,t_,t_,f_] rfl rfl (one_of HT_.out (by kernel_rfl)) (by decide) (fun K hK => ?_)
        refine gs_ Try.func29 #[.agg #[.int .i64 ((rd_T57 l0 x5_1).f0), .int .i64 ((rd_T57 l0 x5_1).f1), .slice A231_2 ((rd_T57 l0 x5_1).f2).length c231_2], .agg #[.int .i64 ((rd_T57 l1 x5_1).f0), .int .i64 ((rd_T57 l1 x5_1).f1), .slice A232_2 ((rd_T57 l1 x5_1).f2).length c232_2]] ?_
        with_reducible refine (laws_eqPart.calls k1 ((rd_T57 l0 x5_1).f0) ((rd_T57 l0 x5_1).f1) _ _ ((rd_T57 l0 x5_1).f2) ((rd_T57 l1 x5_1).f0) ((rd_T57 l1 x5_1).f1) _ _ ((rd_T57 l1 x5_1).f2) true _ ?side1 ?side2 ?side3 ?side4 A7.out).mono ?_
        (case side1 => exact cp_ ((Kd.C_below HR231_2.out HB.out)))
        (case side2 => exact HC231_2.out)
        (case side3 => exact cp_ ((Kd.C_below HR232_2.out HB.out)))
        (case side4 => exact HC232_2.out)
        rintro e w10 ⟨rfl, hb⟩
        refine ⟨_, rfl, ?_⟩
        replace HB := st_ HB hb
        (try clear hb)
        (try clear hk)
        refine hK.out _ _ ⟨((HB.out.cell (World.block_lt_of_cell? w _ hw231_0)).trans hw231_0), ((HB.out.cell (World.block_lt_of_cell? w _ hw231_1)).trans hw231_1), ((HB.out.cell (World.block_lt_of_cell? w _ hw231_2)).trans hw231_2), ((HB.out.cell (World.block_lt_of_cell? w _ hw232_0)).trans hw232_0), ((HB.out.cell (World.block_lt_of_cell? w _ hw232_1)).trans hw232_1), ((HB.out.cell (World.block_lt_of_cell? w _ hw232_2)).trans hw232_2)⟩ (fun hHeld => ?_)
        clear hK K
        refine norm_ (a' := ?_) ?_ ?_
        rotate_left
        ·
         show Act.put _ (some 25) _ = _
         simp only [fr_]
         rfl
        refine pw_ 9 26 (b_ 10 0) rfl rfl HT_.out ?_
        refine done_ (done_of HT_.out (by kernel_rfl)) ?_
        try go_wp2
        go_roundg k1
        case measure => have := HK1.out; omega
        case rel => exact ⟨(wrap64 (x5_1 + 1)), (by first | rfl | (simp; done) | (simp [*]; done)), H', ⟨by have := HK1.out; omega⟩, ⟨by exact hs_ HB.out⟩⟩
       replace c8 := Bool.eq_false_iff.mpr c8
       subst c8
       rw [if_neg (show ¬ (false = true) by decide)] at H
       exact absurd H (by simp)
      rw [if_neg c6] at H
      exact absurd H (by simp)
     rw [if_neg c5] at H
     exact absurd H (by simp)
    rw [if_neg c4] at H
    have c4b0 : decide (x5_1 < (l0.length : Int)) = false := decide_eq_false c4
    clear c4
    obtain rfl := Option.some.inj H
    go_wp2
    go_ret
    exact an_ (by exact hs_ HB.out)
 rw [if_neg c3] at H
 exact absurd H (by simp)
def laws_markText.l0 : Nat → Int → ByteArray → Option (ByteArray)
 | 0, _, _ => none
 | k + 1, x0, x3 => if x0 > 0 then ((some (([(wrap64 (48 + (Int.tmod x0 10))) % 256] : List Int) : List Int)).bind fun y524 => (if (strOfNums y524).size + x3.size ≤ 9223372036854775807 then (laws_markText.l0 k (wrap64 (Int.tdiv x0 10)) ((strOfNums y524) ++ x3)) else (none))) else (if 1 + x3.size ≤ 9223372036854775807 then (some ((⟨#[109]⟩ : ByteArray) ++ x3)) else (none))
def laws_markText.f (k : Nat) (a0 : Int) : Option (ByteArray) := if a0 ≤ 0 then (some (⟨#[109, 48]⟩ : ByteArray)) else (laws_markText.l0 k a0 (⟨#[]⟩ : ByteArray))
theorem laws_markText.mono_l : ∀ k, (∀ y0 y1, LeO (laws_markText.l0 k y0 y1) (laws_markText.l0 (k + 1) y0 y1))
 | 0 => fun _ _ r h => by simp [laws_markText.l0] at h
 | k + 1 => by
  have ih0 := laws_markText.mono_l k
  intro y0 y1
  unfold laws_markText.l0
  repeat' first
  | (with_reducible exact ih0 _ _)
  | (with_reducible exact LeO.refl _)
  | (with_reducible exact LeO.none _)
  | (with_reducible refine LeO.ite ?_ ?_)
  | (with_reducible refine LeO.bind ?_ (fun _ => ?_))
  | exact ih0 _ _
theorem laws_markText.mono : ∀ a0 k, LeO (laws_markText.f k a0) (laws_markText.f (k + 1) a0) := by
 intro a0 k
 have ih0 := laws_markText.mono_l k
 unfold laws_markText.f
 repeat' first | (with_reducible first | exact ih0 _ _ | exact LeO.refl _ | exact LeO.none _ | refine LeO.ite ?_ ?_ | refine LeO.bind ?_ (fun _ => ?_)) | exact ih0 _ _
theorem laws_markText.calls (k : Nat) (a0 : Int) (r : ByteArray) (w : World) (h : laws_markText.f k a0 = some r) :
  Calls Try.prog 82 #[.int .i64 a0] w fun e w' => e = .returned (.string r) ∧ Below w.heap.size w w' := by
 have HB := Aside0.mk (Below.refl w.heap.size w)
 have H : (if a0 ≤ 0 then (some (⟨#[109, 48]⟩ : ByteArray)) else (laws_markText.l0 k a0 (⟨#[]⟩ : ByteArray))) = some r := h
 clear h
 by_cases c2 : a0 ≤ 0
 ·
  rw [if_pos c2] at H
  have c2b0 := decide_eq_true c2
  clear c2
  obtain rfl := Option.some.inj H
  go_enter Try.func82, Try.ntmps82
  go_wp2
  go_ret
  exact an_ (by exact hs_ HB.out)
 rw [if_neg c2] at H
 have c2b0 : decide (a0 ≤ 0) = false := decide_eq_false c2
 clear c2
 have H' := Aside0.mk H
 clear H
 go_enter Try.func82, Try.ntmps82
 go_wp2
 go_loopg [0, 3] k (fun kq v0 v3 w' => ∃ (x0_1 : Int) (x3_1 : ByteArray), v0 = .int .i64 x0_1 ∧ v3 = .string x3_1 ∧ Aside0 (laws_markText.l0 kq x0_1 x3_1 = some r) ∧ Aside0 (kq ≤ k) ∧ Aside0 (Below w.heap.size w w'))
 case atStart => exact ⟨(a0), ((⟨#[]⟩ : ByteArray)), (by first | rfl | (simp; done) | (simp [*]; done)), (by first | rfl | (simp; done) | (simp [*]; done)), H', ⟨Nat.le_refl _⟩, ⟨by exact hs_ HB.out⟩⟩
 case round =>
  clear H'
  try clear c2
  try clear c2b0
  try clear p2
  obtain ⟨x0_1, x3_1, rfl, rfl, HA, HK1, HB⟩ := hrel
  cases gk with
  | zero => exact absurd HA.out (by simp [laws_markText.l0])
  | succ k1 =>
   have H := HA.out
   clear HA
   simp only [laws_markText.l0] at H
   by_cases c3 : x0_1 > 0
   ·
    rw [if_pos c3] at H
    have c3b0 : decide (0 < x0_1) = true := decide_eq_true c3
    clear c3
    obtain ⟨y524, hy524⟩ : ∃ y_ : List Int, y_ = (([(wrap64 (48 + (Int.tmod x0_1 10))) % 256] : List Int)) := ⟨_, rfl⟩
    replace H : (if (strOfNums y524).size + x3_1.size ≤ 9223372036854775807 then (laws_markText.l0 k1 (wrap64 (Int.tdiv x0_1 10)) ((strOfNums y524) ++ x3_1)) else (none)) = some r := by first | (rw [hy524]; with_reducible exact H) | (have H2_ := (Option.bind_some _ _).symm.trans H; rw [hy524]; with_reducible exact H2_) | (have H2_ := (Option.bind_some _ _).symm.trans H; with_reducible exact H2_) | with_reducible exact H | (rw [hy524]; exact H) | exact H
    have Ny524 := Aside0.mk hy524
    clear hy524
    by_cases c4 : (strOfNums y524).size + x3_1.size ≤ 9223372036854775807
    ·
     rw [if_pos c4] at H
     have c4b0 := eq_true c4
     have c4b1 := decide_eq_true c4
     try have c4b2 : (9223372036854775807 < (strOfNums y524).size + x3_1.size) = False := eq_false (Nat.not_lt.2 c4)
     have H' := Aside0.mk H
     clear H
     go_wp2_with (first | ((with_reducible refine gd_ 12 rfl ?_); refine Kd.R_lit (Kd.int .u8) _ 5 ?hg (N := 12) ?hd (xs := ([(wrap64 (48 + (Int.tmod x0_1 10))) % 256] : List Int)) (inner := [.int .u8 ((wrap64 (48 + (Int.tmod x0_1 10))) % 256)]) (ok := fun _ => True) (okp := fun _ => True) ?hr ?hp (fun _ hk => hk) trivial (Below.refl _ _) (Nat.le_refl _) (by simp) ?_; (case hd => rfl); (case hg => rfl); (case hr => first | (go_simp; done) | (go_simp; rfl)); (case hp => exact (Reps.one (show Kd.M (Kd.int .u8) _ _ _ ((wrap64 (48 + (Int.tmod x0_1 10))) % 256) [.int .u8 ((wrap64 (48 + (Int.tmod x0_1 10))) % 256)] from rfl) (Reps.none _ _))); intro v525 w5 ho6 hb hg_ hnew_; clear hg_ hnew_; (first | rw [← Ny524.out] at ho6 | (simp only [Int.reduceToNat] at ho6; rw [← Ny524.out] at ho6)); have HO526 := Aside0.mk (Kd.R_lower ho6 (below_size (hs_ HB.out))); have n1_ := st_ HB hb; clear HB; have HB := n1_; clear n1_; clear hb ho6; have hcv7 := own_string (P := Try.prog) Try.underlying126 Try.underlying5 Try.underlying9 (Kd.own_of_R HO526.out)))
     go_roundg k1
     case measure => have := HK1.out; omega
     case rel => exact ⟨(wrap64 (Int.tdiv x0_1 10)), ((strOfNums y524) ++ x3_1), (by first | rfl | (simp; done) | (simp [*]; done)), (by first | rfl | (simp; done) | (simp [*]; done)), H', ⟨by have := HK1.out; omega⟩, ⟨by exact hs_ HB.out⟩⟩
    rw [if_neg c4] at H
    exact absurd H (by simp)
   rw [if_neg c3] at H
   have c3b0 : decide (0 < x0_1) = false := decide_eq_false c3
   clear c3
   by_cases c8 : 1 + x3_1.size ≤ 9223372036854775807
   ·
    rw [if_pos c8] at H
    have c8b0 := eq_true c8
    have c8b1 := decide_eq_true c8
    try have c8b2 : (9223372036854775807 < 1 + x3_1.size) = False := eq_false (Nat.not_lt.2 c8)
    obtain rfl := Option.some.inj H
    go_wp2
    go_ret
    exact an_ (by exact hs_ HB.out)
   rw [if_neg c8] at H
   exact absurd H (by simp)
def laws_markLabelS.l0 : Nat → List (S88) → Int → Int → Option (Int × (List (S88)))
 | 0, _, _, _ => none
 | k + 1, x0, x1, x5 => if x5 < (x0.length : Int) then ((laws_markText.f k x1).bind fun t527 => (if 0 ≤ x5 then ((some (x0.set (x5 : Int).toNat (⟨t527, (rd_T88 x0 x5).f1⟩ : S88) : List (S88))).bind fun y528 => ((laws_markText.f k (wrap64 (x1 + 1))).bind fun t529 => (laws_markLabelS.l0 k (y528.set (x5 : Int).toNat (⟨(rd_T88 y528 x5).f0, t529⟩ : S88)) (wrap64 ((wrap64 (x1 + 1)) + 1)) (wrap64 (x5 + 1))))) else (none))) else (some (x1, x0))
def laws_markLabelS.f (k : Nat) (l0 : List (S88)) (a1 : Int) : Option (Int × (List (S88))) := laws_markLabelS.l0 k l0 a1 0
theorem laws_markLabelS.mono_l : ∀ k, (∀ y0 y1 y2, LeO (laws_markLabelS.l0 k y0 y1 y2) (laws_markLabelS.l0 (k + 1) y0 y1 y2))
 | 0 => fun _ _ _ r h => by simp [laws_markLabelS.l0] at h
 | k + 1 => by
  have ih0 := laws_markLabelS.mono_l k
  intro y0 y1 y2
  unfold laws_markLabelS.l0
  repeat' first
  | (with_reducible exact ih0 _ _ _)
  | (with_reducible exact laws_markText.mono _ _)
  | (with_reducible exact LeO.refl _)
  | (with_reducible exact LeO.none _)
  | (with_reducible refine LeO.ite ?_ ?_)
  | (with_reducible refine LeO.bind ?_ (fun _ => ?_))
  | exact ih0 _ _ _
  | exact laws_markText.mono _ _
theorem laws_markLabelS.mono : ∀ a0 a1 k, LeO (laws_markLabelS.f k a0 a1) (laws_markLabelS.f (k + 1) a0 a1) := by
 intro a0 a1 k
 have ih0 := laws_markLabelS.mono_l k
 unfold laws_markLabelS.f
 repeat' first | (with_reducible first | exact ih0 _ _ _ | exact laws_markText.mono _ _ | exact LeO.refl _ | exact LeO.none _ | refine LeO.ite ?_ ?_ | refine LeO.bind ?_ (fun _ => ?_)) | exact ih0 _ _ _ | exact laws_markText.mono _ _
theorem laws_markLabelS.calls (k : Nat) (P0_ : Nat → Prop) (u9000_ : Value) (l0 : List (S88)) (a1 : Int) (r1 : Int) (r2 : List (S88)) (w0 w : World) (hB : Below w0.heap.size w0 w) (ho0 : Kd.R k88 88 w w0.heap.size P0_ u9000_ l0) (h : laws_markLabelS.f k l0 a1 = some (r1, r2)) :
  Calls Try.prog 36 #[u9000_, .int .i64 a1] w fun e w' => e = .returned (.int .i64 r1) ∧ Kd.R k88 88 w' w0.heap.size (fun k_ => (P0_ k_ ∨ w.heap.size ≤ k_)) u9000_ r2 ∧ Below w0.heap.size w0 w' ∧ Kept w w' (fun k_ => P0_ k_) := by
 have HO0 := Aside0.mk (show Kd.R k88 88 w w0.heap.size (fun k_ => (P0_ k_ ∨ w.heap.size ≤ k_)) u9000_ l0 from Kd.R_mono ho0 (fun k_ hk => (.inl hk)))
 have HK := Aside0.mk (Kept.refl w (fun k_ => P0_ k_))
 have HW0 := Aside0.mk hB.size
 have HB := Aside0.mk hB
 clear hB
 have H : (laws_markLabelS.l0 k l0 a1 0) = some (r1, r2) := h
 clear h
 have H' := Aside0.mk H
 clear H
 go_enter Try.func36, Try.ntmps36
 go_wp2
 go_loopg [1, 5] k (fun kq v1 v5 w' => ∃ (x0_1 : List (S88)) (x1_1 : Int) (x5_1 : Int), v1 = .int .i64 x1_1 ∧ v5 = .int .i64 x5_1 ∧ Aside0 (laws_markLabelS.l0 kq x0_1 x1_1 x5_1 = some (r1, r2)) ∧ Aside0 (kq ≤ k) ∧ Aside0 (Kd.R k88 88 w' w0.heap.size (fun k_ => (P0_ k_ ∨ w.heap.size ≤ k_)) u9000_ x0_1) ∧ Aside0 (Kept w w' (fun k_ => P0_ k_)) ∧ Aside0 (Below w0.heap.size w0 w'))
 case atStart => exact ⟨(l0), (a1), (0), (by first | rfl | (simp; done) | (simp [*]; done)), (by first | rfl | (simp; done) | (simp [*]; done)), H', ⟨Nat.le_refl _⟩, ⟨by (with_reducible repeat (first | apply Kd.R_alloc | apply Kd.R_drewN | apply Kd.R_drew)); exact HO0.out⟩, ⟨by repeat (first | (with_reducible first | exact HK.out | apply Kept.alloc | apply Kept.drewN | apply Kept.drew) | exact HK.out)⟩, ⟨by exact hs_ HB.out⟩⟩
 case round =>
  clear H'
  try clear p2
  obtain ⟨x0_1, x1_1, x5_1, rfl, rfl, HA, HK1, HO_0, HK, HB⟩ := hrel
  cases gk with
  | zero => exact absurd HA.out (by simp [laws_markLabelS.l0])
  | succ k1 =>
   have H := HA.out
   clear HA
   simp only [laws_markLabelS.l0] at H
   by_cases c3 : x5_1 < (x0_1.length : Int)
   ·
    rw [if_pos c3] at H
    have c3b0 := decide_eq_true c3
    clear c3
    replace H := Option.bind_eq_some_iff.mp H
    obtain ⟨t527, A40, H⟩ := H
    have A4 := Aside0.mk A40
    clear A40
    by_cases c5 : 0 ≤ x5_1
    ·
     rw [if_pos c5] at H
     have c5b0 := decide_eq_true c5
     clear c5
     obtain ⟨y528, hy528⟩ : ∃ y_ : List (S88), y_ = (x0_1.set (x5_1 : Int).toNat (⟨t527, (rd_T88 x0_1 x5_1).f1⟩ : S88)) := ⟨_, rfl⟩
     replace H : ((laws_markText.f k1 (wrap64 (x1_1 + 1))).bind fun t529 => (laws_markLabelS.l0 k1 (y528.set (x5_1 : Int).toNat (⟨(rd_T88 y528 x5_1).f0, t529⟩ : S88)) (wrap64 ((wrap64 (x1_1 + 1)) + 1)) (wrap64 (x5_1 + 1)))) = some (r1, r2) := by first | (rw [hy528]; with_reducible exact H) | (have H2_ := (Option.bind_some _ _).symm.trans H; rw [hy528]; with_reducible exact H2_) | (have H2_ := (Option.bind_some _ _).symm.trans H; with_reducible exact H2_) | with_reducible exact H | (rw [hy528]; exact H) | exact H
     have Ny528 := Aside0.mk hy528
     clear hy528
     replace H := Option.bind_eq_some_iff.mp H
     obtain ⟨t529, A70, H⟩ := H
     have A7 := Aside0.mk A70
     clear A70
     obtain ⟨y530, hy530⟩ : ∃ y_ : List (S88), y_ = (y528.set (x5_1 : Int).toNat (⟨(rd_T88 y528 x5_1).f0, t529⟩ : S88)) := ⟨_, rfl⟩
     replace H : (laws_markLabelS.l0 k1 y530 (wrap64 ((wrap64 (x1_1 + 1)) + 1)) (wrap64 (x5_1 + 1))) = some (r1, r2) := by first | (rw [hy530]; with_reducible exact H) | (have H2_ := (Option.bind_some _ _).symm.trans H; rw [hy530]; with_reducible exact H2_) | (have H2_ := (Option.bind_some _ _).symm.trans H; with_reducible exact H2_) | with_reducible exact H | (rw [hy530]; exact H) | exact H
     have Ny530 := Aside0.mk hy530
     clear hy530
     have H' := Aside0.mk H
     clear H
     obtain ⟨Ao9, co9, eo9⟩ := Kd.R_slice HO_0.out
     subst eo9
     go_wp2_with (first | ((with_reducible refine gate_callee (f := 82) rfl ?_); refine gl_ (some 15) Try.func82 #[.int .i64 x1_1] ?_; (with_reducible refine (laws_markText.calls k1 x1_1 t527 _ A4.out).mono ?_); rintro e w10 ⟨rfl, hb⟩; refine ⟨_, rfl, ?_⟩; replace HO_0 := Aside0.mk (Kd.R_below (rp_ HO_0.out) hb); replace HK := Aside0.mk (Kept.below (S := (fun k_ => P0_ k_)) (by repeat (first | (with_reducible first | exact HK.out | apply Kept.alloc | apply Kept.drewN | apply Kept.drew) | exact HK.out)) hb); replace HB := st_ HB hb; (try clear hb); (try clear hk); have p6 : 0 ≤ (x5_1 : Int) := of_decide_eq_true (by with_reducible assumption); have q6 : (x5_1 : Int) < ((x0_1.length : Int) : Int) := of_decide_eq_true (by with_reducible assumption); obtain ⟨go6, co6, eo6, gb6, gl6, cl6, HG6⟩ := Kd.R_form HO_0.out (by omega); (first | cases eo6 | (injection eo6 with ea_ en_ ec_; (first | subst ea_ | (injection ea_ with ea_; subst ea_)); subst ec_; clear en_)); have GB6 := Aside0.mk gb6; have GG6 := Aside0.mk HG6; clear gb6 gl6 HG6; have HMgo6 := Aside0.mk (show (P0_ go6 ∨ w.heap.size ≤ go6) from (HO_0.out.1 _ rfl)); obtain ⟨ce6, hcl6, hM6, hcc6, hfr6⟩ := Kd.R_elem HO_0.out z88 (x5_1 : Int) p6 q6; obtain rfl := k88_openM hM6; have hx6_0 : w10.cell? ⟨go6, (x5_1 : Int).toNat * 2, none⟩ = some (.string ((rd_T88 x0_1 x5_1).f0)) := hcc6 0 _ rfl; have hx6_1 : w10.cell? ⟨go6, (x5_1 : Int).toNat * 2 + 1, none⟩ = some (.string ((rd_T88 x0_1 x5_1).f1)) := hcc6 1 _ rfl; have hf6_0 : w10.frozen? ⟨go6, (x5_1 : Int).toNat * 2, none⟩ = false := hfr6 0; have hf6_1 : w10.frozen? ⟨go6, (x5_1 : Int).toNat * 2 + 1, none⟩ = false := hfr6 1; clear hcl6 hcc6 hfr6 hM6; replace p6 := eq_true p6; replace q6 := eq_true q6; have HX11 := Aside0.mk (show Kd.R k88 88 w10 w0.heap.size (fun k_ => (P0_ k_ ∨ w.heap.size ≤ k_)) (.slice (some ⟨go6, 0, none⟩) x0_1.length co9) x0_1 from (rp_ HO_0.out)); obtain ⟨ce11, hcl11, hM11, hcc11, hfr11⟩ := Kd.R_elem HX11.out z88 (x5_1 : Int) (of_decide_eq_true (by with_reducible assumption)) (by have h_ : (x5_1 : Int) < ((x0_1.length : Int) : Int) := of_decide_eq_true (by with_reducible assumption); first | exact h_ | (have e_ := (Kd.R_reads' HO_0.out).1; omega) | simpa using h_); obtain rfl := k88_openM hM11; have HP11 := Kd.R_seg HX11.out (x5_1 : Int) (of_decide_eq_true (by with_reducible assumption)) (by have h_ : (x5_1 : Int) < ((x0_1.length : Int) : Int) := of_decide_eq_true (by with_reducible assumption); first | exact h_ | (have e_ := (Kd.R_reads' HO_0.out).1; omega) | simpa using h_) (seg := [.string t527]) (j := 0) hcl11 hcc11 (show 1 ≤ 2 from by decide) (x' := (⟨t527, (rd_T88 x0_1 x5_1).f1⟩ : S88)) (k88_mkM _ _ _ (⟨t527, (rd_T88 x0_1 x5_1).f1⟩ : S88) ) (fun _ hk => hk); have hx11_0 := hcc11 0 _ rfl; (try simp only [show (k88).sz = 2 from rfl, Nat.mul_one, Nat.add_zero] at hx11_0); have hf11_0 := hfr11 0; (try simp only [show (k88).sz = 2 from rfl, Nat.mul_one, Nat.add_zero] at hf11_0); clear hcl11 hcc11 hfr11 hM11) | ((with_reducible refine gate_store (t := 9) (p := 17) rfl ?_); refine store_event (t := 9) (p := 17) (v := ?vo_w12) (w1 := (w10.setCell ⟨go6, (x5_1 : Int).toNat * 2, none⟩ (.string t527))) ?hg ?ho ?hn ?hr ?_; (case ho => rfl); (case hg => rfl); (case hn => rfl); (case hr => first | (go_simp; done) | (go_simp; rfl)); intro w12 hw; have hg : w10.grownBy w12 (some go6) := (by rw [hw]; exact HP11.2); have hp_ : Kd.R k88 88 w12 w0.heap.size (fun k_ => (P0_ k_ ∨ w.heap.size ≤ k_)) (.slice (some ⟨go6, 0, none⟩) x0_1.length co9) y528 := (by rw [hw, Ny528.out]; exact HP11.1); clear HP11; replace HB := Aside0.mk ((by rw [hw]; exact below_set (HB.out) GB6.out : Below w0.heap.size w0 w12)); replace HK := Aside0.mk (Kept.of_grown (S := (fun k_ => P0_ k_)) hg (by repeat (first | (with_reducible first | exact HK.out | apply Kept.alloc | apply Kept.drewN | apply Kept.drew) | exact HK.out)) (fun k_ e_ => (HO_0.out.1 k_ e_))); replace HO_0 := Aside0.mk (hp_); clear hg hw hp_) | ((with_reducible refine gate_callee (f := 82) rfl ?_); refine gl_ (some 23) Try.func82 #[.int .i64 (wrap64 (x1_1 + 1))] ?_; (with_reducible refine (laws_markText.calls k1 (wrap64 (x1_1 + 1)) t529 _ A7.out).mono ?_); rintro e w13 ⟨rfl, hb⟩; refine ⟨_, rfl, ?_⟩; replace HO_0 := Aside0.mk (Kd.R_below (rp_ HO_0.out) hb); replace HK := Aside0.mk (Kept.below (S := (fun k_ => P0_ k_)) (by repeat (first | (with_reducible first | exact HK.out | apply Kept.alloc | apply Kept.drewN | apply Kept.drew) | exact HK.out)) hb); replace HB := st_ HB hb; (try clear hb); (try clear hk); have p8 : 0 ≤ (x5_1 : Int) := of_decide_eq_true (by with_reducible assumption); have q8 : (x5_1 : Int) < ((x0_1.length : Int) : Int) := of_decide_eq_true (by with_reducible assumption); obtain ⟨ce8, hcl8, hM8, hcc8, hfr8⟩ := Kd.R_elem HO_0.out z88 (x5_1 : Int) p8 q8; obtain rfl := k88_openM hM8; have hx8_0 : w13.cell? ⟨go6, (x5_1 : Int).toNat * 2, none⟩ = some (.string ((rd_T88 y528 x5_1).f0)) := hcc8 0 _ rfl; have hx8_1 : w13.cell? ⟨go6, (x5_1 : Int).toNat * 2 + 1, none⟩ = some (.string ((rd_T88 y528 x5_1).f1)) := hcc8 1 _ rfl; have hf8_0 : w13.frozen? ⟨go6, (x5_1 : Int).toNat * 2, none⟩ = false := hfr8 0; have hf8_1 : w13.frozen? ⟨go6, (x5_1 : Int).toNat * 2 + 1, none⟩ = false := hfr8 1; clear hcl8 hcc8 hfr8 hM8; replace p8 := eq_true p8; replace q8 := eq_true q8; have HX14 := Aside0.mk (show Kd.R k88 88 w13 w0.heap.size (fun k_ => (P0_ k_ ∨ w.heap.size ≤ k_)) (.slice (some ⟨go6, 0, none⟩) x0_1.length co9) y528 from (rp_ HO_0.out)); obtain ⟨ce14, hcl14, hM14, hcc14, hfr14⟩ := Kd.R_elem HX14.out z88 (x5_1 : Int) (of_decide_eq_true (by with_reducible assumption)) (by have h_ : (x5_1 : Int) < ((x0_1.length : Int) : Int) := of_decide_eq_true (by with_reducible assumption); first | exact h_ | (have e_ := (Kd.R_reads' HO_0.out).1; omega) | simpa using h_); obtain rfl := k88_openM hM14; have HP14 := Kd.R_seg HX14.out (x5_1 : Int) (of_decide_eq_true (by with_reducible assumption)) (by have h_ : (x5_1 : Int) < ((x0_1.length : Int) : Int) := of_decide_eq_true (by with_reducible assumption); first | exact h_ | (have e_ := (Kd.R_reads' HO_0.out).1; omega) | simpa using h_) (seg := [.string t529]) (j := 1) hcl14 hcc14 (show 2 ≤ 2 from by decide) (x' := (⟨(rd_T88 y528 x5_1).f0, t529⟩ : S88)) (k88_mkM _ _ _ (⟨(rd_T88 y528 x5_1).f0, t529⟩ : S88) ) (fun _ hk => hk); have hx14_1 := hcc14 1 _ rfl; (try simp only [show (k88).sz = 2 from rfl, Nat.mul_one, Nat.add_zero] at hx14_1); have hf14_1 := hfr14 1; (try simp only [show (k88).sz = 2 from rfl, Nat.mul_one, Nat.add_zero] at hf14_1); clear hcl14 hcc14 hfr14 hM14) | ((with_reducible refine gate_store (t := 9) (p := 25) rfl ?_); refine store_event (t := 9) (p := 25) (v := ?vo_w15) (w1 := (w13.setCell ⟨go6, (x5_1 : Int).toNat * 2 + 1, none⟩ (.string t529))) ?hg ?ho ?hn ?hr ?_; (case ho => rfl); (case hg => rfl); (case hn => rfl); (case hr => first | (go_simp; done) | (go_simp; rfl)); intro w15 hw; have hg : w13.grownBy w15 (some go6) := (by rw [hw]; exact HP14.2); have hp_ : Kd.R k88 88 w15 w0.heap.size (fun k_ => (P0_ k_ ∨ w.heap.size ≤ k_)) (.slice (some ⟨go6, 0, none⟩) x0_1.length co9) y530 := (by rw [hw, Ny530.out]; exact HP14.1); clear HP14; replace HB := Aside0.mk ((by rw [hw]; exact below_set (HB.out) GB6.out : Below w0.heap.size w0 w15)); replace HK := Aside0.mk (Kept.of_grown (S := (fun k_ => P0_ k_)) hg (by repeat (first | (with_reducible first | exact HK.out | apply Kept.alloc | apply Kept.drewN | apply Kept.drew) | exact HK.out)) (fun k_ e_ => (HO_0.out.1 k_ e_))); replace HO_0 := Aside0.mk (hp_); clear hg hw hp_))
     go_roundg k1
     case measure => have := HK1.out; omega
     case rel => exact ⟨(y530), (wrap64 ((wrap64 (x1_1 + 1)) + 1)), (wrap64 (x5_1 + 1)), (by first | rfl | (simp; done) | (simp [*]; done)), (by first | rfl | (simp; done) | (simp [*]; done)), H', ⟨by have := HK1.out; omega⟩, ⟨by (with_reducible repeat (first | apply Kd.R_alloc | apply Kd.R_drewN | apply Kd.R_drew)); exact HO_0.out⟩, ⟨by repeat (first | (with_reducible first | exact HK.out | apply Kept.alloc | apply Kept.drewN | apply Kept.drew) | exact HK.out)⟩, ⟨by exact hs_ HB.out⟩⟩
    rw [if_neg c5] at H
    exact absurd H (by simp)
   rw [if_neg c3] at H
   have c3b0 : decide (x5_1 < (x0_1.length : Int)) = false := decide_eq_false c3
   clear c3
   simp only [Option.some.injEq, Prod.mk.injEq] at H
   obtain ⟨rfl, rfl⟩ := H
   obtain ⟨Ao16, co16, eo16⟩ := Kd.R_slice HO_0.out
   subst eo16
   go_wp2
   go_ret
   exact an_ ⟨by (with_reducible repeat (first | apply Kd.R_alloc | apply Kd.R_drewN | apply Kd.R_drew)); exact HO_0.out, by exact hs_ HB.out, by repeat (first | (with_reducible first | exact HK.out | apply Kept.alloc | apply Kept.drewN | apply Kept.drew) | exact HK.out)⟩
def laws_markAlarm.f (k : Nat) (l0_0 : List (S88)) (a0_1 : Int) (a0_2 : Int) (a0_3 : ByteArray) (a1 : Int) : Option (Int × (List (S88))) := (laws_markLabelS.f k l0_0 a1).bind fun bt532 => (some (bt532.1, bt532.2))
theorem laws_markAlarm.mono : ∀ a0 a1 a2 a3 a4 k, LeO (laws_markAlarm.f k a0 a1 a2 a3 a4) (laws_markAlarm.f (k + 1) a0 a1 a2 a3 a4) := by
 intro a0 a1 a2 a3 a4 k
 unfold laws_markAlarm.f
 repeat' first | (with_reducible first | exact laws_markLabelS.mono _ _ _ | exact LeO.refl _ | exact LeO.none _ | refine LeO.ite ?_ ?_ | refine LeO.bind ?_ (fun _ => ?_)) | exact laws_markLabelS.mono _ _ _
theorem laws_markAlarm.calls (k : Nat) (P0_0_ : Nat → Prop) (u9000_ : Value) (l0_0 : List (S88)) (a0_1 : Int) (a0_2 : Int) (a0_3 : ByteArray) (a1 : Int) (r1 : Int) (r2 : List (S88)) (w0 w : World) (hB : Below w0.heap.size w0 w) (ho0_0 : Kd.R k88 88 w w0.heap.size P0_0_ u9000_ l0_0) (h : laws_markAlarm.f k l0_0 a0_1 a0_2 a0_3 a1 = some (r1, r2)) :
  Calls Try.prog 37 #[.agg #[u9000_, .int .i64 a0_1, .int .i64 a0_2, .string a0_3], .int .i64 a1] w fun e w' => e = .returned (.int .i64 r1) ∧ Kd.R k88 88 w' w0.heap.size (fun k_ => (P0_0_ k_ ∨ w.heap.size ≤ k_)) u9000_ r2 ∧ Below w0.heap.size w0 w' ∧ Kept w w' (fun k_ => P0_0_ k_) := by
 have hu43 := Try.underlying43
 have HO0_0 := Aside0.mk (show Kd.R k88 88 w w0.heap.size (fun k_ => (P0_0_ k_ ∨ w.heap.size ≤ k_)) u9000_ l0_0 from Kd.R_mono ho0_0 (fun k_ hk => (.inl hk)))
 have HK := Aside0.mk (Kept.refl w (fun k_ => P0_0_ k_))
 have HW0 := Aside0.mk hB.size
 have HB := Aside0.mk hB
 clear hB
 have H : ((laws_markLabelS.f k l0_0 a1).bind fun bt532 => (some (bt532.1, bt532.2))) = some (r1, r2) := h
 clear h
 replace H := Option.bind_eq_some_iff.mp H
 obtain ⟨⟨t532, t533⟩, A30, H⟩ := H
 have A3 := Aside0.mk A30
 clear A30
 simp only [Option.some.injEq, Prod.mk.injEq] at H
 obtain ⟨rfl, rfl⟩ := H
 obtain ⟨Ao4, co4, eo4⟩ := Kd.R_slice HO0_0.out
 subst eo4
 go_enter Try.func37, Try.ntmps37
 go_wp2_with (first | ((with_reducible refine gd_ 2 rfl ?_); refine bv_ 2 #[.slice Ao4 l0_0.length co4, .int .i64 a0_1, .int .i64 a0_2, .string a0_3] 43 ?_; intro gb531 hg w5 hbox hb; replace HO0_0 := Aside0.mk (Kd.R_below (rp_ HO0_0.out) hb); have BK531 := Aside0.mk (hbox); have GW531 := Aside0.mk ((by rw [hg]; exact (by first | exact HK.out.1 | exact (show Kept w _ (fun k_ => P0_0_ k_) from by repeat (first | (with_reducible first | exact HK.out | apply Kept.alloc | apply Kept.drewN | apply Kept.drew) | exact HK.out)).1) : w.heap.size ≤ gb531)); replace HK := Aside0.mk (Kept.below (S := (fun k_ => P0_0_ k_)) (by repeat (first | (with_reducible first | exact HK.out | apply Kept.alloc | apply Kept.drewN | apply Kept.drew) | exact HK.out)) hb); have GE531 := Ge_.mk ((by rw [hg]; exact (below_size (hs_ HB.out)) : w0.heap.size ≤ gb531)); replace HB := st_ HB hb; clear hb hbox hg; obtain ⟨z6_0, z6_1, z6_2, z6_3, y6_0, y6_1, y6_2, y6_3⟩ := bc4_ BK531.out) | ((with_reducible refine gate_callee (f := 36) rfl ?_); refine gl_ (some 8) Try.func36 #[.slice Ao4 l0_0.length co4, .int .i64 a1] ?_; (with_reducible refine (laws_markLabelS.calls k (fun k_ => some k_ = (.slice Ao4 l0_0.length co4 : Value).ownBlock) (.slice Ao4 l0_0.length co4) l0_0 a1 t532 t533 w0 _ ?side1 ?side2 A3.out).mono ?_); (case side1 => exact hs_ HB.out); (case side2 => exact Kd.R_tight rfl HO0_0.out); rintro e w7 ⟨rfl, hy0, hb, hkp⟩; refine ⟨_, rfl, ?_⟩; replace BK531 := Aside0.mk (blk_kept (pb_ BK531.out) hkp (fun hs_ => (fun e_ => (Kd.R_ne HO0_0.out BK531.out (by decide)) e_) hs_)); replace HK := Aside0.mk (Kept.then_ (S := (fun k_ => P0_0_ k_)) (by repeat (first | (with_reducible first | exact HK.out | apply Kept.alloc | apply Kept.drewN | apply Kept.drew | refine Kept.setCell ?_ (.inr GW531.out) _) | exact HK.out)) hkp (fun k_ hs_ => (fun e_ => (HO0_0.out.1 k_ e_.symm)) hs_)); replace HO0_0 := Aside0.mk (Kd.R_reok rfl hy0 (fun k_ e_ => HO0_0.out.1 k_ e_)); replace HB := Aside0.mk (hb); (try clear hb); (try clear hkp); (try clear hy0)))
 go_ret
 exact an_ ⟨by (with_reducible repeat (first | apply Kd.R_alloc | apply Kd.R_drewN | apply Kd.R_drew)); exact HO0_0.out, by exact hs_ HB.out, by repeat (first | (with_reducible first | exact HK.out | apply Kept.alloc | apply Kept.drewN | apply Kept.drew | refine Kept.setCell ?_ (.inr GW531.out) _) | exact HK.out)⟩
def laws_markAlarmS.l0 : Nat → List S43 → Int → Int → Option (Int × (List S43))
 | 0, _, _, _ => none
 | k + 1, x0, x1, x5 => if x5 < (x0.length : Int) then (if 0 ≤ x5 then ((laws_markLabelS.f k (rd_T43 x0 x5).f0 x1).bind fun b0 => ((laws_markText.f k (wrap64 ((wrap64 (b0.1 + 1)) + 1))).bind fun b3 => (laws_markAlarmS.l0 k (x0.set x5.toNat (⟨b0.2, b0.1, wrap64 (b0.1 + 1), b3⟩ : S43)) (wrap64 ((wrap64 ((wrap64 (b0.1 + 1)) + 1)) + 1)) (wrap64 (x5 + 1))))) else (none)) else (some (x1, x0))
def laws_markAlarmS.f (k : Nat) (l0 : List S43) (a1 : Int) : Option (Int × (List S43)) := laws_markAlarmS.l0 k l0 a1 0
theorem laws_markAlarmS.mono_l : ∀ k, (∀ y0 y1 y2, LeO (laws_markAlarmS.l0 k y0 y1 y2) (laws_markAlarmS.l0 (k + 1) y0 y1 y2))
 | 0 => fun _ _ _ r h => by simp [laws_markAlarmS.l0] at h
 | k + 1 => by
  have ih0 := laws_markAlarmS.mono_l k
  intro y0 y1 y2
  unfold laws_markAlarmS.l0
  repeat' first
  | (with_reducible exact ih0 _ _ _)
  | (with_reducible exact laws_markLabelS.mono _ _ _)
  | (with_reducible exact laws_markText.mono _ _)
  | (with_reducible exact LeO.refl _)
  | (with_reducible exact LeO.none _)
  | (with_reducible refine LeO.ite ?_ ?_)
  | (with_reducible refine LeO.bind ?_ (fun _ => ?_))
  | exact ih0 _ _ _
  | exact laws_markLabelS.mono _ _ _
  | exact laws_markText.mono _ _
theorem laws_markAlarmS.mono : ∀ a0 a1 k, LeO (laws_markAlarmS.f k a0 a1) (laws_markAlarmS.f (k + 1) a0 a1) := by
 intro a0 a1 k
 have ih0 := laws_markAlarmS.mono_l k
 unfold laws_markAlarmS.f
 repeat' first | (with_reducible first | exact ih0 _ _ _ | exact laws_markLabelS.mono _ _ _ | exact laws_markText.mono _ _ | exact LeO.refl _ | exact LeO.none _ | refine LeO.ite ?_ ?_ | refine LeO.bind ?_ (fun _ => ?_)) | exact ih0 _ _ _ | exact laws_markLabelS.mono _ _ _ | exact laws_markText.mono _ _
theorem laws_markAlarmS.calls (k : Nat) (P0_ : Nat → Prop) (u9000_ : Value) (l0 : List S43) (a1 : Int) (r1 : Int) (r2 : List S43) (w0 w : World) (hB : Below w0.heap.size w0 w) (ho0 : Kd.S k43 43 w w0.heap.size P0_ u9000_ l0) (h : laws_markAlarmS.f k l0 a1 = some (r1, r2)) :
  Calls Try.prog 53 #[u9000_, .int .i64 a1] w fun e w' => e = .returned (.int .i64 r1) ∧ Kd.S k43 43 w' w0.heap.size P0_ u9000_ r2 ∧ Below w0.heap.size w0 w' ∧ Kept w w' (fun k_ => P0_ k_) := by
 have HO := Aside0.mk ho0
 have HK := Aside0.mk (Kept.refl w (fun k_ => P0_ k_))
 have HB := Aside0.mk hB
 clear hB ho0
 have H' := Aside0.mk (show laws_markAlarmS.l0 k l0 a1 0 = some (r1, r2) from h)
 clear h
 go_enter Try.func53, Try.ntmps53
 go_wp2
 go_loopg [1, 5] k (fun kq v1 v5 w' => ∃ (x0_1 : List S43) (x1_1 : Int) (x5_1 : Int), v1 = .int .i64 x1_1 ∧ v5 = .int .i64 x5_1 ∧ Aside0 (laws_markAlarmS.l0 kq x0_1 x1_1 x5_1 = some (r1, r2)) ∧ Aside0 (kq ≤ k) ∧ Aside0 (Kd.S k43 43 w' w0.heap.size P0_ u9000_ x0_1) ∧ Aside0 (Kept w w' (fun k_ => P0_ k_)) ∧ Aside0 (Below w0.heap.size w0 w'))
 case atStart => exact ⟨l0, a1, 0, (by first | rfl | (simp; done) | (simp [*]; done)), (by first | rfl | (simp; done) | (simp [*]; done)), H', ⟨Nat.le_refl _⟩, ⟨(sp_ HO.out)⟩, ⟨(by repeat (first | (with_reducible first | exact HK.out | apply Kept.alloc | apply Kept.drewN | apply Kept.drew) | exact HK.out))⟩, ⟨(hs_ HB.out)⟩⟩
 case round =>
  clear H'
  obtain ⟨x0_1, x1_1, x5_1, rfl, rfl, HA, HK1, HO, HK, HB⟩ := hrel
  cases gk with
  | zero => exact absurd HA.out (by simp [laws_markAlarmS.l0])
  | succ k1 =>
   have H := HA.out
   clear HA
   simp only [laws_markAlarmS.l0] at H
   by_cases c3 : x5_1 < (x0_1.length : Int)
   ·
    rw [if_pos c3] at H
    have c3b0 := decide_eq_true c3
    by_cases c4 : 0 ≤ x5_1
    ·
     rw [if_pos c4] at H
     have c4b0 := decide_eq_true c4
     obtain ⟨⟨t0, s0⟩, A0_, H⟩ := Option.bind_eq_some_iff.mp H
     have A0 := Aside0.mk A0_; clear A0_; dsimp only at H A0
     obtain ⟨s3, A3_, H⟩ := Option.bind_eq_some_iff.mp H
     have A3 := Aside0.mk A3_; clear A3_; (try dsimp only at H A3)
     have H' := Aside0.mk H
     clear H
     obtain ⟨Ao, co, eo⟩ := Kd.S_slice HO.out
     subst eo
     obtain ⟨go, co_, eo_, gb_, gl_, cl_, HG_⟩ := Kd.S_form HO.out (by omega)
     (first | cases eo_ | (injection eo_ with ea_ en_ ec_; (first | subst ea_ | (injection ea_ with ea_; subst ea_)); subst ec_; clear en_))
     have GB := Aside0.mk gb_
     clear gb_ gl_ HG_
     have p5 : (0 ≤ (x5_1 : Int)) = True := eq_true c4
     have q5 : ((x5_1 : Int) < (x0_1.length : Int)) = True := eq_true c3
     have HO1 := Aside0.mk (show Kd.S k43 43 wr w0.heap.size P0_ (.slice (some ⟨go, 0, none⟩) x0_1.length co) (x0_1.set (x5_1 : Int).toNat (rd_T43 x0_1 x5_1)) from S_begin HO.out z43 x5_1 c4 c3)
     clear HO
     have HO := HO1
     clear HO1
     obtain ⟨oki1, ce1, hM1, hcc1, hfr1, hoki1, hin1, hput1⟩ := S_hand HO.out c4 c3
     obtain ⟨ve1_0, rfl, ge1_0⟩ := k43_openM hM1
     have hx1_0 : wr.cell? ⟨go, (x5_1 : Int).toNat * 4, none⟩ = some (ve1_0) := hcc1 0 _ rfl
     have hf1_0 : wr.frozen? ⟨go, (x5_1 : Int).toNat * 4, none⟩ = false := hfr1 0
     have hx1_1 : wr.cell? ⟨go, (x5_1 : Int).toNat * 4 + 1, none⟩ = some (.int .i64 ((rd_T43 x0_1 x5_1).f1)) := hcc1 1 _ rfl
     have hf1_1 : wr.frozen? ⟨go, (x5_1 : Int).toNat * 4 + 1, none⟩ = false := hfr1 1
     have hx1_2 : wr.cell? ⟨go, (x5_1 : Int).toNat * 4 + 2, none⟩ = some (.int .i64 ((rd_T43 x0_1 x5_1).f2)) := hcc1 2 _ rfl
     have hf1_2 : wr.frozen? ⟨go, (x5_1 : Int).toNat * 4 + 2, none⟩ = false := hfr1 2
     have hx1_3 : wr.cell? ⟨go, (x5_1 : Int).toNat * 4 + 3, none⟩ = some (.string ((rd_T43 x0_1 x5_1).f3)) := hcc1 3 _ rfl
     have hf1_3 : wr.frozen? ⟨go, (x5_1 : Int).toNat * 4 + 3, none⟩ = false := hfr1 3
     clear hcc1 hfr1 hM1
     go_wp2_with (first | ((with_reducible refine gate_callee (f := 36) rfl ?_); refine gl_ (some 18) Try.func36 #[ve1_0, .int .i64 x1_1] ?_; (with_reducible refine (laws_markLabelS.calls k1 oki1 ve1_0 ((rd_T43 x0_1 x5_1).f0) x1_1 t0 s0 w0 _ (hs_ HB.out) ge1_0 A0.out).mono ?_); rintro e wm1 ⟨rfl, hy, hb, hkp⟩; refine ⟨_, rfl, ?_⟩; replace HO := Aside0.mk (hin1 wm1 (⟨s0, ((rd_T43 x0_1 x5_1).f1), ((rd_T43 x0_1 x5_1).f2), ((rd_T43 x0_1 x5_1).f3)⟩ : S43) hkp (k43_mkM _ _ _ (⟨s0, ((rd_T43 x0_1 x5_1).f1), ((rd_T43 x0_1 x5_1).f2), ((rd_T43 x0_1 x5_1).f3)⟩ : S43) (Kd.R_reok rfl hy (fun k_ e_ => ge1_0.1 k_ e_)))); replace HK := Aside0.mk (Kept.then_ (S := (fun k_ => P0_ k_)) (by repeat (first | (with_reducible first | exact HK.out | apply Kept.alloc | apply Kept.drewN | apply Kept.drew) | exact HK.out)) hkp (fun k_ h_ => .inl (hoki1 k_ h_).1)); replace HB := Aside0.mk hb; obtain ⟨oki2, ce2, hM2, hcc2, hfr2, hoki2, hin2, hput2⟩ := S_hand HO.out c4 c3; obtain ⟨ve2_0, rfl, ge2_0⟩ := k43_openM hM2; have hx2_0 : wm1.cell? ⟨go, (x5_1 : Int).toNat * 4, none⟩ = some (ve2_0) := hcc2 0 _ rfl; have hf2_0 : wm1.frozen? ⟨go, (x5_1 : Int).toNat * 4, none⟩ = false := hfr2 0; have hx2_1 : wm1.cell? ⟨go, (x5_1 : Int).toNat * 4 + 1, none⟩ = some (.int .i64 ((rd_T43 x0_1 x5_1).f1)) := hcc2 1 _ rfl; have hf2_1 : wm1.frozen? ⟨go, (x5_1 : Int).toNat * 4 + 1, none⟩ = false := hfr2 1; have hx2_2 : wm1.cell? ⟨go, (x5_1 : Int).toNat * 4 + 2, none⟩ = some (.int .i64 ((rd_T43 x0_1 x5_1).f2)) := hcc2 2 _ rfl; have hf2_2 : wm1.frozen? ⟨go, (x5_1 : Int).toNat * 4 + 2, none⟩ = false := hfr2 2; have hx2_3 : wm1.cell? ⟨go, (x5_1 : Int).toNat * 4 + 3, none⟩ = some (.string ((rd_T43 x0_1 x5_1).f3)) := hcc2 3 _ rfl; have hf2_3 : wm1.frozen? ⟨go, (x5_1 : Int).toNat * 4 + 3, none⟩ = false := hfr2 3; clear hcc2 hfr2 hM2) | ((with_reducible refine gate_store (t := 3) (p := 23) rfl ?_); refine store_event (t := 3) (p := 23) (v := ?vo_wm2) (w1 := (wm1.setCell ⟨go, (x5_1 : Int).toNat * 4 + 1, none⟩ (.int .i64 t0))) ?hg ?ho ?hn ?hr ?_; (case ho => rfl); (case hg => rfl); (case hn => rfl); (case hr => first | (go_simp; done) | (go_simp; rfl)); intro wm2 hw; have hs_ := hput2 (.int .i64 t0) 1 (⟨s0, t0, ((rd_T43 x0_1 x5_1).f2), ((rd_T43 x0_1 x5_1).f3)⟩ : S43) rfl (by decide) (k43_mkM _ _ _ (⟨s0, t0, ((rd_T43 x0_1 x5_1).f2), ((rd_T43 x0_1 x5_1).f3)⟩ : S43) ge2_0); have hg : wm1.grownBy wm2 (some go) := (by rw [hw]; exact hs_.2); replace HB := Aside0.mk (show Below w0.heap.size w0 wm2 from (by rw [hw]; exact below_set (HB.out) GB.out)); replace HK := Aside0.mk (Kept.of_grown (S := (fun k_ => P0_ k_)) hg (by repeat (first | (with_reducible first | exact HK.out | apply Kept.alloc | apply Kept.drewN | apply Kept.drew) | exact HK.out)) (fun k_ e_ => .inl ((Kd.S_R HO.out).1 k_ e_))); replace HO := Aside0.mk (show Kd.S k43 43 wm2 w0.heap.size P0_ (.slice (some ⟨go, 0, none⟩) x0_1.length co) (x0_1.set (x5_1 : Int).toNat (⟨s0, t0, ((rd_T43 x0_1 x5_1).f2), ((rd_T43 x0_1 x5_1).f3)⟩ : S43)) from (by rw [hw]; exact hs_.1)); clear hg hw hs_; obtain ⟨oki3, ce3, hM3, hcc3, hfr3, hoki3, hin3, hput3⟩ := S_hand HO.out c4 c3; obtain ⟨ve3_0, rfl, ge3_0⟩ := k43_openM hM3; have hx3_0 : wm2.cell? ⟨go, (x5_1 : Int).toNat * 4, none⟩ = some (ve3_0) := hcc3 0 _ rfl; have hf3_0 : wm2.frozen? ⟨go, (x5_1 : Int).toNat * 4, none⟩ = false := hfr3 0; have hx3_1 : wm2.cell? ⟨go, (x5_1 : Int).toNat * 4 + 1, none⟩ = some (.int .i64 t0) := hcc3 1 _ rfl; have hf3_1 : wm2.frozen? ⟨go, (x5_1 : Int).toNat * 4 + 1, none⟩ = false := hfr3 1; have hx3_2 : wm2.cell? ⟨go, (x5_1 : Int).toNat * 4 + 2, none⟩ = some (.int .i64 ((rd_T43 x0_1 x5_1).f2)) := hcc3 2 _ rfl; have hf3_2 : wm2.frozen? ⟨go, (x5_1 : Int).toNat * 4 + 2, none⟩ = false := hfr3 2; have hx3_3 : wm2.cell? ⟨go, (x5_1 : Int).toNat * 4 + 3, none⟩ = some (.string ((rd_T43 x0_1 x5_1).f3)) := hcc3 3 _ rfl; have hf3_3 : wm2.frozen? ⟨go, (x5_1 : Int).toNat * 4 + 3, none⟩ = false := hfr3 3; clear hcc3 hfr3 hM3) | ((with_reducible refine gate_store (t := 3) (p := 30) rfl ?_); refine store_event (t := 3) (p := 30) (v := ?vo_wm3) (w1 := (wm2.setCell ⟨go, (x5_1 : Int).toNat * 4 + 2, none⟩ (.int .i64 (wrap64 (t0 + 1))))) ?hg ?ho ?hn ?hr ?_; (case ho => rfl); (case hg => rfl); (case hn => rfl); (case hr => first | (go_simp; done) | (go_simp; rfl)); intro wm3 hw; have hs_ := hput3 (.int .i64 (wrap64 (t0 + 1))) 2 (⟨s0, t0, wrap64 (t0 + 1), ((rd_T43 x0_1 x5_1).f3)⟩ : S43) rfl (by decide) (k43_mkM _ _ _ (⟨s0, t0, wrap64 (t0 + 1), ((rd_T43 x0_1 x5_1).f3)⟩ : S43) ge3_0); have hg : wm2.grownBy wm3 (some go) := (by rw [hw]; exact hs_.2); replace HB := Aside0.mk (show Below w0.heap.size w0 wm3 from (by rw [hw]; exact below_set (HB.out) GB.out)); replace HK := Aside0.mk (Kept.of_grown (S := (fun k_ => P0_ k_)) hg (by repeat (first | (with_reducible first | exact HK.out | apply Kept.alloc | apply Kept.drewN | apply Kept.drew) | exact HK.out)) (fun k_ e_ => .inl ((Kd.S_R HO.out).1 k_ e_))); replace HO := Aside0.mk (show Kd.S k43 43 wm3 w0.heap.size P0_ (.slice (some ⟨go, 0, none⟩) x0_1.length co) (x0_1.set (x5_1 : Int).toNat (⟨s0, t0, wrap64 (t0 + 1), ((rd_T43 x0_1 x5_1).f3)⟩ : S43)) from (by rw [hw]; exact hs_.1)); clear hg hw hs_; obtain ⟨oki4, ce4, hM4, hcc4, hfr4, hoki4, hin4, hput4⟩ := S_hand HO.out c4 c3; obtain ⟨ve4_0, rfl, ge4_0⟩ := k43_openM hM4; have hx4_0 : wm3.cell? ⟨go, (x5_1 : Int).toNat * 4, none⟩ = some (ve4_0) := hcc4 0 _ rfl; have hf4_0 : wm3.frozen? ⟨go, (x5_1 : Int).toNat * 4, none⟩ = false := hfr4 0; have hx4_1 : wm3.cell? ⟨go, (x5_1 : Int).toNat * 4 + 1, none⟩ = some (.int .i64 t0) := hcc4 1 _ rfl; have hf4_1 : wm3.frozen? ⟨go, (x5_1 : Int).toNat * 4 + 1, none⟩ = false := hfr4 1; have hx4_2 : wm3.cell? ⟨go, (x5_1 : Int).toNat * 4 + 2, none⟩ = some (.int .i64 (wrap64 (t0 + 1))) := hcc4 2 _ rfl; have hf4_2 : wm3.frozen? ⟨go, (x5_1 : Int).toNat * 4 + 2, none⟩ = false := hfr4 2; have hx4_3 : wm3.cell? ⟨go, (x5_1 : Int).toNat * 4 + 3, none⟩ = some (.string ((rd_T43 x0_1 x5_1).f3)) := hcc4 3 _ rfl; have hf4_3 : wm3.frozen? ⟨go, (x5_1 : Int).toNat * 4 + 3, none⟩ = false := hfr4 3; clear hcc4 hfr4 hM4) | ((with_reducible refine gate_callee (f := 82) rfl ?_); refine gl_ (some 36) Try.func82 #[.int .i64 (wrap64 ((wrap64 (t0 + 1)) + 1))] ?_; (with_reducible refine (laws_markText.calls k1 (wrap64 ((wrap64 (t0 + 1)) + 1)) s3 _ A3.out).mono ?_); rintro e wm4 ⟨rfl, hb⟩; refine ⟨_, rfl, ?_⟩; replace HO := Aside0.mk (Kd.S_below (sp_ HO.out) hb); replace HK := Aside0.mk (Kept.below (S := (fun k_ => P0_ k_)) (by repeat (first | (with_reducible first | exact HK.out | apply Kept.alloc | apply Kept.drewN | apply Kept.drew) | exact HK.out)) hb); replace HB := st_ HB hb; obtain ⟨oki5, ce5, hM5, hcc5, hfr5, hoki5, hin5, hput5⟩ := S_hand HO.out c4 c3; obtain ⟨ve5_0, rfl, ge5_0⟩ := k43_openM hM5; have hx5_0 : wm4.cell? ⟨go, (x5_1 : Int).toNat * 4, none⟩ = some (ve5_0) := hcc5 0 _ rfl; have hf5_0 : wm4.frozen? ⟨go, (x5_1 : Int).toNat * 4, none⟩ = false := hfr5 0; have hx5_1 : wm4.cell? ⟨go, (x5_1 : Int).toNat * 4 + 1, none⟩ = some (.int .i64 t0) := hcc5 1 _ rfl; have hf5_1 : wm4.frozen? ⟨go, (x5_1 : Int).toNat * 4 + 1, none⟩ = false := hfr5 1; have hx5_2 : wm4.cell? ⟨go, (x5_1 : Int).toNat * 4 + 2, none⟩ = some (.int .i64 (wrap64 (t0 + 1))) := hcc5 2 _ rfl; have hf5_2 : wm4.frozen? ⟨go, (x5_1 : Int).toNat * 4 + 2, none⟩ = false := hfr5 2; have hx5_3 : wm4.cell? ⟨go, (x5_1 : Int).toNat * 4 + 3, none⟩ = some (.string ((rd_T43 x0_1 x5_1).f3)) := hcc5 3 _ rfl; have hf5_3 : wm4.frozen? ⟨go, (x5_1 : Int).toNat * 4 + 3, none⟩ = false := hfr5 3; clear hcc5 hfr5 hM5) | ((with_reducible refine gate_store (t := 9) (p := 38) rfl ?_); refine store_event (t := 9) (p := 38) (v := ?vo_wm5) (w1 := (wm4.setCell ⟨go, (x5_1 : Int).toNat * 4 + 3, none⟩ (.string s3))) ?hg ?ho ?hn ?hr ?_; (case ho => rfl); (case hg => rfl); (case hn => rfl); (case hr => first | (go_simp; done) | (go_simp; rfl)); intro wm5 hw; have hs_ := hput5 (.string s3) 3 (⟨s0, t0, wrap64 (t0 + 1), s3⟩ : S43) rfl (by decide) (k43_mkM _ _ _ (⟨s0, t0, wrap64 (t0 + 1), s3⟩ : S43) ge5_0); have hg : wm4.grownBy wm5 (some go) := (by rw [hw]; exact hs_.2); replace HB := Aside0.mk (show Below w0.heap.size w0 wm5 from (by rw [hw]; exact below_set (HB.out) GB.out)); replace HK := Aside0.mk (Kept.of_grown (S := (fun k_ => P0_ k_)) hg (by repeat (first | (with_reducible first | exact HK.out | apply Kept.alloc | apply Kept.drewN | apply Kept.drew) | exact HK.out)) (fun k_ e_ => .inl ((Kd.S_R HO.out).1 k_ e_))); replace HO := Aside0.mk (show Kd.S k43 43 wm5 w0.heap.size P0_ (.slice (some ⟨go, 0, none⟩) x0_1.length co) (x0_1.set (x5_1 : Int).toNat (⟨s0, t0, wrap64 (t0 + 1), s3⟩ : S43)) from (by rw [hw]; exact hs_.1)); clear hg hw hs_))
     go_roundg k1
     case measure => have := HK1.out; omega
     case rel => exact ⟨x0_1.set (x5_1 : Int).toNat (⟨s0, t0, wrap64 (t0 + 1), s3⟩ : S43), (wrap64 ((wrap64 ((wrap64 (t0 + 1)) + 1)) + 1)), wrap64 (x5_1 + 1), (by first | rfl | (simp; done) | (simp [*]; done)), (by first | rfl | (simp; done) | (simp [*]; done)), H', ⟨by have := HK1.out; omega⟩, ⟨(sp_ HO.out)⟩, ⟨(by repeat (first | (with_reducible first | exact HK.out | apply Kept.alloc | apply Kept.drewN | apply Kept.drew) | exact HK.out))⟩, ⟨(hs_ HB.out)⟩⟩
    rw [if_neg c4] at H
    exact absurd H (by simp)
   rw [if_neg c3] at H
   have c3b0 : decide (x5_1 < (x0_1.length : Int)) = false := decide_eq_false c3
   simp only [Option.some.injEq, Prod.mk.injEq] at H
   obtain ⟨rfl, rfl⟩ := H
   obtain ⟨Ao, co, eo⟩ := Kd.S_slice HO.out
   subst eo
   go_wp2
   go_ret
   exact ⟨by first | rfl | (simp [*] <;> rfl), (sp_ HO.out), (hs_ HB.out), (by repeat (first | (with_reducible first | exact HK.out | apply Kept.alloc | apply Kept.drewN | apply Kept.drew) | exact HK.out))⟩
end Go.Proofs.Yticgekgojgkbgaa.Print
end
