-- Written by printx.py, a program of this session (wip/gen), over the kit's print.py.
import Derived.Test.YticgekgojgkbgaaDoorF0
import Derived.WalkKit
import Derived.ProofKit
import Derived.OpenShut
import Derived.ShutString
import Derived.ChangeOld
import Derived.Below
import Derived.SizedLaws
import Derived.Deep.Slices
import Derived.ChangeSame
import Derived.Carry
import Derived.Test.YticgekgojgkbgaaDoorV1
namespace Go.Proofs.YticgekgojgkbgaaDoor.Print
open Go.RowKit Go.Proofs.YticgekgojgkbgaaDoorV.PrintWords Go.Proofs.YticgekgojgkbgaaDoorV.PrintLast Go.Proofs.YticgekgojgkbgaaDoorV.PrintMore
open Go.ChangeShapes Go.WideShapes Go.Deep
set_option linter.unusedVariables false

/-- A value that is read as data of type t is of kind d, and B of it. -/
def Opens {α : Type} (P : Program) (t : TypeId) (d : Kd α) (B : α → Prop) : Prop :=
 ∀ (H : Type) (enc : TypeId × Value → H) (w : World) (base : Nat) (fuel : Nat) (cs : List Value) (x : DataW H × List MemPlace),
  DataW.trod enc P w base (fun _ => true) true fuel t cs = some x → ∃ y, d.K w y cs ∧ B y
theorem opens_int {P : Program} {t : TypeId} {k : IntKind} (ht : P.underlying t = some (.int k)) : Opens P t (Kd.int k) (fun n => (Lit.int k n).wf = true) := by
 intro H enc w base fuel cs x h
 obtain ⟨n, rfl, _, hw⟩ := DataW.trod_int ht h
 exact ⟨n, rfl, hw⟩
theorem opens_bool {P : Program} {t : TypeId} (ht : P.underlying t = some .bool) : Opens P t Kd.bool (fun _ => True) := by
 intro H enc w base fuel cs x h
 obtain ⟨n, rfl, _⟩ := DataW.trod_bool ht h
 exact ⟨n, rfl, trivial⟩
theorem opens_string {P : Program} {t : TypeId} (ht : P.underlying t = some .string) : Opens P t Kd.string (fun s => s.size ≤ maxLen) := by
 intro H enc w base fuel cs x h
 obtain ⟨n, rfl, _, hw⟩ := DataW.trod_string ht h
 exact ⟨n, rfl, hw⟩
theorem list_of_each {α : Type} (R : Nat → α → Prop) : ∀ n, (∀ i, i < n → ∃ y, R i y) → ∃ l : List α, l.length = n ∧ ∀ i y, l[i]? = some y → R i y
 | 0, _ => ⟨[], rfl, fun i y h => by simp at h⟩
 | n + 1, h => by
  obtain ⟨l, hl, hr⟩ := list_of_each R n (fun i hi => h i (by omega))
  obtain ⟨z, hz⟩ := h n (by omega)
  refine ⟨l ++ [z], by simp [hl], fun i y hy => ?_⟩
  by_cases hi : i < l.length
  ·
   rw [List.getElem?_append_left hi] at hy
   exact hr i y hy
  ·
   rw [List.getElem?_append_right (by omega)] at hy
   have hi0 : i - l.length = 0 := by
    by_cases h0 : i - l.length = 0
    ·
     exact h0
    ·
     rw [List.getElem?_eq_none (by simp; omega)] at hy
     cases hy
   rw [hi0] at hy
   have e : i = n := by omega
   subst e
   injection hy with hy
   subst hy
   exact hz
theorem opens_slice {α : Type} {P : Program} {t e : TypeId} {d : Kd α} {B : α → Prop} (ht : P.underlying t = some (.slice e)) (hc : P.cellsOf e = d.sz) (ho : Opens P e d B) :
  Opens P t (Kd.slice e d) (fun l => l.length ≤ maxLen ∧ ∀ y ∈ l, B y) := by
 intro H enc w base fuel cs x h
 rcases open_slice ht h with ⟨rfl, _⟩ | ⟨a, len, cap, m, n, D, Pl, rfl, hb, hl, hm, hmm, _, hi⟩
 ·
  exact ⟨[], ⟨none, 0, rfl, Nat.le_refl _, Kd.C_nil d w⟩, Nat.zero_le _, fun y hy => by simp at hy⟩
 ·
  have hmc : m = cap := by simpa using hmm
  subst hmc
  obtain ⟨l, hlen, hr⟩ := list_of_each (fun i y => (∃ c, c.length = d.sz ∧ d.K w y c ∧ ∀ j u, c[j]? = some u → w.cell? (a.add (i * d.sz + j)) = some u) ∧ B y) len (by
   intro i hil
   obtain ⟨cs', hcs, htr⟩ := hi i (by omega)
   obtain ⟨y, hK, hB⟩ := ho _ _ _ _ _ _ _ htr
   obtain ⟨_, hcl, hat⟩ := World.cells?_some hcs
   refine ⟨y, ⟨cs', by rw [hcl, hc], hK, fun j u hj => ?_⟩, hB⟩
   have hjl : j < cs'.length := (List.getElem?_eq_some_iff.1 hj).1
   have h2 := hat j (by omega)
   rw [Addr.add_add, hc] at h2
   rw [h2, hj])
  subst hlen
  refine ⟨l, ⟨some a, m, rfl, hl, rfl, by simp only [maxLen] at hm; omega, fun _ => ⟨a, rfl, fun j p hj => ?_⟩⟩, by omega, fun y hy => ?_⟩
  ·
   obtain ⟨⟨c, h1, h2, h3⟩, _⟩ := hr j p hj
   exact ⟨c, h1, h2, h3⟩
  ·
   obtain ⟨i, hi2, e⟩ := List.mem_iff_getElem.1 hy
   exact (hr i y (by rw [List.getElem?_eq_getElem hi2, e])).2
/-- Fields in line, from cell 'off' on. -/
def OpensF {α : Type} (P : Program) (fs : List Field) (off : Nat) (d : Kd α) (B : α → Prop) : Prop :=
 ∀ (H : Type) (enc : TypeId × Value → H) (w : World) (base : Nat) (n : Nat) (cs : List Value), cs.length = off + d.sz →
  (∀ f, f ∈ fs → ∃ x, DataW.trod enc P w base (fun _ => true) true n f.type ((cs.drop f.offset).take (P.cellsOf f.type)) = some x) → ∃ y, d.K w y (cs.drop off) ∧ B y
theorem opensF_one {α : Type} {P : Program} {f : Field} {off : Nat} {d : Kd α} {B : α → Prop} (hf : f.offset = off) (hc : P.cellsOf f.type = d.sz) (ho : Opens P f.type d B) : OpensF P [f] off d B := by
 intro H enc w base n cs hl h
 obtain ⟨x, hx⟩ := h f (List.mem_singleton.2 rfl)
 rw [hf, hc, List.take_of_length_le (by rw [List.length_drop]; omega)] at hx
 exact ho _ _ _ _ _ _ _ hx
theorem opensF_cons {α β : Type} {P : Program} {f : Field} {fs : List Field} {off : Nat} {a : Kd α} {b : Kd β} {A : α → Prop} {B : β → Prop} (hf : f.offset = off) (hc : P.cellsOf f.type = a.sz) (ha : Opens P f.type a A) (hb : OpensF P fs (off + a.sz) b B) :
  OpensF P (f :: fs) off (Kd.pair a b) (fun p => A p.1 ∧ B p.2) := by
 intro H enc w base n cs hl h
 have hsz : (Kd.pair a b).sz = a.sz + b.sz := rfl
 obtain ⟨x, hx⟩ := h f List.mem_cons_self
 rw [hf, hc] at hx
 obtain ⟨y, hK, hA⟩ := ha _ _ _ _ _ _ _ hx
 obtain ⟨z, hK2, hB⟩ := hb H enc w base n cs (by omega) (fun f' hf' => h f' (List.mem_cons_of_mem _ hf'))
 exact ⟨(y, z), ⟨_, _, by rw [← List.drop_drop, List.take_append_drop], hK, hK2⟩, hA, hB⟩
theorem opensF_iso {α β : Type} {P : Program} {fs : List Field} {off : Nat} {d : Kd α} {f : β → α} {B : α → Prop} {B' : β → Prop} (gf : α → β) (hg : ∀ y, f (gf y) = y) (hB : ∀ y, B y → B' (gf y)) (ho : OpensF P fs off d B) : OpensF P fs off (Kd.iso d f) B' := by
 intro H enc w base n cs hl h
 obtain ⟨y, hK, hB2⟩ := ho H enc w base n cs hl h
 exact ⟨gf y, by show d.K w (f (gf y)) _; rw [hg]; exact hK, hB y hB2⟩
theorem opens_struct {α : Type} {P : Program} {t : TypeId} {fs : Array Field} {d : Kd α} {B : α → Prop} (ht : P.underlying t = some (.struct fs)) (hl : P.cellsOf t = d.sz) (ho : OpensF P fs.toList 0 d B) : Opens P t d B := by
 intro H enc w base fuel cs x h
 obtain ⟨xs, n, _, _, hlen, hxl, hf⟩ := DataW.trod_struct ht h
 have := ho H enc w base n cs (by omega) (fun f hfm => by
  obtain ⟨i, hi, e⟩ := List.mem_iff_getElem.1 hfm
  have hi2 : i < fs.size := by simpa using hi
  have h2 := hf i f (by rw [Array.getElem?_eq_getElem hi2]; exact congrArg some (by simpa using e))
  rw [List.getElem?_eq_getElem (by omega)] at h2
  exact ⟨_, h2⟩)
 simpa using this

structure S24 where
 f0 : Int
 f1 : Int
 f2 : Int
 f3 : Int
 f4 : Int
 f5 : List ByteArray
def z24 : S24 := ⟨(0 : Int), (0 : Int), (0 : Int), (0 : Int), (0 : Int), ([] : List ByteArray)⟩
def B24 (x : S24) : Prop := (Lit.int .i64 x.f0).wf = true ∧ (Lit.int .i64 x.f1).wf = true ∧ (Lit.int .i64 x.f2).wf = true ∧ (Lit.int .i64 x.f3).wf = true ∧ (Lit.int .i64 x.f4).wf = true ∧ (x.f5.length ≤ maxLen ∧ ∀ y ∈ x.f5, y.size ≤ maxLen)
structure S27 where
 f0 : Int
 f1 : Int
 f2 : Int
 f3 : Int
 f4 : Int
 f5 : List ByteArray
def z27 : S27 := ⟨(0 : Int), (0 : Int), (0 : Int), (0 : Int), (0 : Int), ([] : List ByteArray)⟩
def B27 (x : S27) : Prop := (Lit.int .i64 x.f0).wf = true ∧ (Lit.int .i64 x.f1).wf = true ∧ (Lit.int .i64 x.f2).wf = true ∧ (Lit.int .i64 x.f3).wf = true ∧ (Lit.int .i64 x.f4).wf = true ∧ (x.f5.length ≤ maxLen ∧ ∀ y ∈ x.f5, y.size ≤ maxLen)
end Go.Proofs.YticgekgojgkbgaaDoor.Print
