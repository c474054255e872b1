import Derived.Test.YtfholjcelnkleaaProg
import Derived.Below
import Derived.Deep.Draws
import Derived.Deep.AppendLies
import Derived.Maps.AppendAt
import Derived.OwnWalk
import Derived.Laws.BytesArg
import Derived.Laws.MakeOwn
import Derived.Laws.OwnMore
import Derived.Deep.OwnRows
import Derived.Tactics
import Derived.Lib.ConvBytes
import Derived.Laws.Slices
import Derived.WalkKit
import Derived.KernelRfl
import Derived.RowKit3
import Derived.Deep.LoopGhost
import Derived.Deep.QuietTactic
import Derived.BigQuiet
import Derived.WideLaws
import Derived.Deep.DeepCutAuto
import Derived.Deep.CutBlock
import Derived.Deep.RegionHeld3
import Derived.Laws.Rows
import Derived.Lib.AppendStr
import Derived.ArgAppend
import Derived.Laws.IdiomCopy
import Derived.OrdersHeld
import Derived.Laws.BitsLemmas
import Derived.RowKit
import Derived.Test.YtfholjcelnkleaaMFnSubs0
section
namespace Go.Proofs.Ytfholjcelnkleaa.Print
open Go.RowKit Go.Proofs.YtfholjcelnkleaaV.PrintWords Go.Proofs.YtfholjcelnkleaaV.PrintLast Go.Proofs.YtfholjcelnkleaaV.PrintMore
attribute [local go_sem] max2_int min2_int max_two min_two max_three min_three max_four min_four
set_option linter.unusedVariables false
set_option linter.unusedSimpArgs false
set_option maxHeartbeats 8000000
set_option maxRecDepth 100000
def errW : Option Int → Value
 | none => .nilIface
 | some c => .iface 0 (.int .i64 c)
theorem errW_none : errW none = .nilIface := rfl
theorem errW_some (c : Int) : errW (some c) = .iface 0 (.int .i64 c) := rfl

theorem info39 : (Try.prog.info? 39).map (fun i => (i.zero, i.size, i.bytes)) = some (some (.agg #[(.slice none 0 0), (.bool false)]), 2, 32) := by kernel_rfl
theorem info44 : (Try.prog.info? 44).map (fun i => (i.zero, i.size, i.bytes)) = some (some (.agg #[(.slice none 0 0), (.int .i64 0), (.int .i64 0), (.string ⟨#[]⟩)]), 4, 56) := by kernel_rfl
theorem info164 : (Try.prog.info? 164).map (fun i => (i.zero, i.size, i.bytes)) = some (some (.agg #[(.string ⟨#[]⟩), (.string ⟨#[]⟩)]), 2, 32) := by kernel_rfl
/-! #### struct type 163 -/
structure S163 where
 f0 : ByteArray
 f1 : ByteArray
def z163 : S163 := ⟨(⟨#[]⟩ : ByteArray), (⟨#[]⟩ : ByteArray)⟩
def k163 : Kd S163 := Kd.iso (Kd.pair Kd.string Kd.string) (fun x : S163 => (x.f0, x.f1))
theorem k163_open {w : World} {x : S163} {cs : List Value} (h : k163.K w x cs) : cs = [.string x.f0, .string x.f1] := by
 obtain ⟨_, _, rfl, rfl, rfl⟩ := h
 exact rfl
def rd_T163 (xs : List S163) (i : Int) : S163 := xs.getD i.toNat z163
theorem at_T163 {w : World} {A : Option Addr} {n : Nat} {xs : List S163} (h : Kd.C k163 w A n xs) (i : Int) (h0 : 0 ≤ i) (h1 : i < n) : ∃ ad , A = some ad ∧ w.cell? (ad.add (i.toNat * 2)) = some (.string (rd_T163 xs i).f0) ∧ w.cell? ⟨(ad.add (i.toNat * 2)).block, (ad.add (i.toNat * 2)).off + 1, none⟩ = some (.string (rd_T163 xs i).f1) := by
 obtain ⟨ad, c, e, _, hK, hc0⟩ := Kd.C_get h z163 i h0 h1
 have hc : ∀ j u, c[j]? = some u → w.cell? (ad.add (i.toNat * 2 + j)) = some u := hc0
 obtain rfl := k163_open hK
 exact ⟨ad, e, hc 0 _ rfl, by rw [← add_field _ _ 1 (by omega)]; exact hc 1 _ rfl⟩

def rd_L2 (xs : List (List S163)) (i : Int) : (List S163) := xs.getD i.toNat ([] : List S163)
/-! #### struct type 34 -/
structure S34 where
 f0 : (List S163)
 f1 : Int
 f2 : Int
 f3 : ByteArray
def z34 : S34 := ⟨([] : List S163), (0 : Int), (0 : Int), (⟨#[]⟩ : ByteArray)⟩
def k34 : Kd S34 := Kd.iso (Kd.pair (Kd.slice 163 k163) (Kd.pair (Kd.int .i64) (Kd.pair (Kd.int .i64) Kd.string))) (fun x : S34 => (x.f0, x.f1, x.f2, x.f3))
theorem k34_open {w : World} {x : S34} {cs : List Value} (h : k34.K w x cs) : ∃ A0 c0, cs = [.slice A0 x.f0.length c0, .int .i64 x.f1, .int .i64 x.f2, .string x.f3] ∧ x.f0.length ≤ c0 ∧ k163.C w A0 x.f0.length x.f0 := by
 obtain ⟨_, _, rfl, ⟨A0, c0, rfl, l0, g0⟩, ⟨_, _, rfl, rfl, ⟨_, _, rfl, rfl, rfl⟩⟩⟩ := h
 exact ⟨A0, c0, rfl, l0, g0⟩
def rd_T34 (xs : List S34) (i : Int) : S34 := xs.getD i.toNat z34
theorem at_T34 {w : World} {A : Option Addr} {n : Nat} {xs : List S34} (h : Kd.C k34 w A n xs) (i : Int) (h0 : 0 ≤ i) (h1 : i < n) : ∃ ad A0 c0, A = some ad ∧ w.cell? (ad.add (i.toNat * 4)) = some (.slice A0 (rd_T34 xs i).f0.length c0) ∧ w.cell? ⟨(ad.add (i.toNat * 4)).block, (ad.add (i.toNat * 4)).off + 1, none⟩ = some (.int .i64 (rd_T34 xs i).f1) ∧ w.cell? ⟨(ad.add (i.toNat * 4)).block, (ad.add (i.toNat * 4)).off + 2, none⟩ = some (.int .i64 (rd_T34 xs i).f2) ∧ w.cell? ⟨(ad.add (i.toNat * 4)).block, (ad.add (i.toNat * 4)).off + 3, none⟩ = some (.string (rd_T34 xs i).f3) ∧ (rd_T34 xs i).f0.length ≤ c0 ∧ k163.C w A0 (rd_T34 xs i).f0.length (rd_T34 xs i).f0 := by
 obtain ⟨ad, c, e, _, hK, hc0⟩ := Kd.C_get h z34 i h0 h1
 have hc : ∀ j u, c[j]? = some u → w.cell? (ad.add (i.toNat * 4 + j)) = some u := hc0
 obtain ⟨A0, c0, rfl, l0, g0⟩ := k34_open hK
 exact ⟨ad, A0, c0, e, hc 0 _ rfl, by rw [← add_field _ _ 1 (by omega)]; exact hc 1 _ rfl, by rw [← add_field _ _ 2 (by omega)]; exact hc 2 _ rfl, by rw [← add_field _ _ 3 (by omega)]; exact hc 3 _ rfl, l0, g0⟩

def rd_L5 (xs : List (List S34)) (i : Int) : (List S34) := xs.getD i.toNat ([] : List S34)
/-! #### struct type 180 -/
structure S180 where
 f0 : Int
 f1 : (List S34)
def z180 : S180 := ⟨(0 : Int), ([] : List S34)⟩
def k180 : Kd S180 := Kd.iso (Kd.pair (Kd.int .i64) (Kd.slice 34 k34)) (fun x : S180 => (x.f0, x.f1))
def rd_T180 (xs : List S180) (i : Int) : S180 := xs.getD i.toNat z180
def rd_L7 (xs : List (List S180)) (i : Int) : (List S180) := xs.getD i.toNat ([] : List S180)
/-! #### struct type 120 -/
structure S120 where
 f0 : Int
 f1 : Int
 f2 : (List S180)
def z120 : S120 := ⟨(0 : Int), (0 : Int), ([] : List S180)⟩
def k120 : Kd S120 := Kd.iso (Kd.pair (Kd.int .i64) (Kd.pair (Kd.int .i64) (Kd.slice 180 k180))) (fun x : S120 => (x.f0, x.f1, x.f2))
def rd_T120 (xs : List S120) (i : Int) : S120 := xs.getD i.toNat z120
/-! #### struct type 164 -/
structure S164 where
 f0 : ByteArray
 f1 : ByteArray
def z164 : S164 := ⟨(⟨#[]⟩ : ByteArray), (⟨#[]⟩ : ByteArray)⟩
def k164 : Kd S164 := Kd.iso (Kd.pair Kd.string Kd.string) (fun x : S164 => (x.f0, x.f1))
theorem k164_open {w : World} {x : S164} {cs : List Value} (h : k164.K w x cs) : cs = [.string x.f0, .string x.f1] := by
 obtain ⟨_, _, rfl, rfl, rfl⟩ := h
 exact rfl
theorem k164_openM {w : World} {base : Nat} {ok : Nat → Prop} {x : S164} {cs : List Value} (h : k164.M w base ok x cs) : cs = [.string x.f0, .string x.f1] := by
 obtain ⟨_, _, rfl, rfl, rfl⟩ := h
 exact rfl
theorem k164_mkM (w : World) (base : Nat) (ok : Nat → Prop) (x : S164)  : k164.M w base ok x [.string x.f0, .string x.f1] := ⟨[.string x.f0], [.string x.f1], rfl, rfl, rfl⟩
def rd_T164 (xs : List S164) (i : Int) : S164 := xs.getD i.toNat z164
theorem at_T164 {w : World} {A : Option Addr} {n : Nat} {xs : List S164} (h : Kd.C k164 w A n xs) (i : Int) (h0 : 0 ≤ i) (h1 : i < n) : ∃ ad , A = some ad ∧ w.cell? (ad.add (i.toNat * 2)) = some (.string (rd_T164 xs i).f0) ∧ w.cell? ⟨(ad.add (i.toNat * 2)).block, (ad.add (i.toNat * 2)).off + 1, none⟩ = some (.string (rd_T164 xs i).f1) := by
 obtain ⟨ad, c, e, _, hK, hc0⟩ := Kd.C_get h z164 i h0 h1
 have hc : ∀ j u, c[j]? = some u → w.cell? (ad.add (i.toNat * 2 + j)) = some u := hc0
 obtain rfl := k164_open hK
 exact ⟨ad, e, hc 0 _ rfl, by rw [← add_field _ _ 1 (by omega)]; exact hc 1 _ rfl⟩

def rd_L10 (xs : List (List S164)) (i : Int) : (List S164) := xs.getD i.toNat ([] : List S164)
/-! #### struct type 44 -/
structure S44 where
 f0 : (List S164)
 f1 : Int
 f2 : Int
 f3 : ByteArray
def z44 : S44 := ⟨([] : List S164), (0 : Int), (0 : Int), (⟨#[]⟩ : ByteArray)⟩
def k44 : Kd S44 := Kd.iso (Kd.pair (Kd.slice 164 k164) (Kd.pair (Kd.int .i64) (Kd.pair (Kd.int .i64) Kd.string))) (fun x : S44 => (x.f0, x.f1, x.f2, x.f3))
theorem k44_open {w : World} {x : S44} {cs : List Value} (h : k44.K w x cs) : ∃ A0 c0, cs = [.slice A0 x.f0.length c0, .int .i64 x.f1, .int .i64 x.f2, .string x.f3] ∧ x.f0.length ≤ c0 ∧ k164.C w A0 x.f0.length x.f0 := by
 obtain ⟨_, _, rfl, ⟨A0, c0, rfl, l0, g0⟩, ⟨_, _, rfl, rfl, ⟨_, _, rfl, rfl, rfl⟩⟩⟩ := h
 exact ⟨A0, c0, rfl, l0, g0⟩
theorem k44_openM {w : World} {base : Nat} {ok : Nat → Prop} {x : S44} {cs : List Value} (h : k44.M w base ok x cs) : ∃ v0, cs = [v0, .int .i64 x.f1, .int .i64 x.f2, .string x.f3] ∧ k164.R 164 w base ok v0 x.f0 := by
 obtain ⟨_, _, rfl, ⟨v0, rfl, g0⟩, ⟨_, _, rfl, rfl, ⟨_, _, rfl, rfl, rfl⟩⟩⟩ := h
 exact ⟨v0, rfl, g0⟩
theorem k44_mkM (w : World) (base : Nat) (ok : Nat → Prop) (x : S44) {v0 : Value} (g0 : k164.R 164 w base ok v0 x.f0) : k44.M w base ok x [v0, .int .i64 x.f1, .int .i64 x.f2, .string x.f3] := ⟨[v0], [.int .i64 x.f1, .int .i64 x.f2, .string x.f3], rfl, ⟨v0, rfl, g0⟩, ⟨[.int .i64 x.f1], [.int .i64 x.f2, .string x.f3], rfl, rfl, ⟨[.int .i64 x.f2], [.string x.f3], rfl, rfl, rfl⟩⟩⟩
def rd_T44 (xs : List S44) (i : Int) : S44 := xs.getD i.toNat z44
theorem at_T44 {w : World} {A : Option Addr} {n : Nat} {xs : List S44} (h : Kd.C k44 w A n xs) (i : Int) (h0 : 0 ≤ i) (h1 : i < n) : ∃ ad A0 c0, A = some ad ∧ w.cell? (ad.add (i.toNat * 4)) = some (.slice A0 (rd_T44 xs i).f0.length c0) ∧ w.cell? ⟨(ad.add (i.toNat * 4)).block, (ad.add (i.toNat * 4)).off + 1, none⟩ = some (.int .i64 (rd_T44 xs i).f1) ∧ w.cell? ⟨(ad.add (i.toNat * 4)).block, (ad.add (i.toNat * 4)).off + 2, none⟩ = some (.int .i64 (rd_T44 xs i).f2) ∧ w.cell? ⟨(ad.add (i.toNat * 4)).block, (ad.add (i.toNat * 4)).off + 3, none⟩ = some (.string (rd_T44 xs i).f3) ∧ (rd_T44 xs i).f0.length ≤ c0 ∧ k164.C w A0 (rd_T44 xs i).f0.length (rd_T44 xs i).f0 := by
 obtain ⟨ad, c, e, _, hK, hc0⟩ := Kd.C_get h z44 i h0 h1
 have hc : ∀ j u, c[j]? = some u → w.cell? (ad.add (i.toNat * 4 + j)) = some u := hc0
 obtain ⟨A0, c0, rfl, l0, g0⟩ := k44_open hK
 exact ⟨ad, A0, c0, e, hc 0 _ rfl, by rw [← add_field _ _ 1 (by omega)]; exact hc 1 _ rfl, by rw [← add_field _ _ 2 (by omega)]; exact hc 2 _ rfl, by rw [← add_field _ _ 3 (by omega)]; exact hc 3 _ rfl, l0, g0⟩

def rd_L12 (xs : List (List S44)) (i : Int) : (List S44) := xs.getD i.toNat ([] : List S44)
/-! #### struct type 125 -/
structure S125 where
 f0 : Int
 f1 : (List S44)
def z125 : S125 := ⟨(0 : Int), ([] : List S44)⟩
def k125 : Kd S125 := Kd.iso (Kd.pair (Kd.int .i64) (Kd.slice 44 k44)) (fun x : S125 => (x.f0, x.f1))
def rd_T125 (xs : List S125) (i : Int) : S125 := xs.getD i.toNat z125
def rd_L14 (xs : List (List S125)) (i : Int) : (List S125) := xs.getD i.toNat ([] : List S125)
/-! #### struct type 123 -/
structure S123 where
 f0 : Int
 f1 : Int
 f2 : (List S125)
def z123 : S123 := ⟨(0 : Int), (0 : Int), ([] : List S125)⟩
def k123 : Kd S123 := Kd.iso (Kd.pair (Kd.int .i64) (Kd.pair (Kd.int .i64) (Kd.slice 125 k125))) (fun x : S123 => (x.f0, x.f1, x.f2))
def rd_T123 (xs : List S123) (i : Int) : S123 := xs.getD i.toNat z123
/-! #### struct type 39 -/
structure S39 where
 f0 : (List S44)
 f1 : Bool
def z39 : S39 := ⟨([] : List S44), false⟩
def k39 : Kd S39 := Kd.iso (Kd.pair (Kd.slice 44 k44) Kd.bool) (fun x : S39 => (x.f0, x.f1))
theorem k39_open {w : World} {x : S39} {cs : List Value} (h : k39.K w x cs) : ∃ A0 c0, cs = [.slice A0 x.f0.length c0, .bool x.f1] ∧ x.f0.length ≤ c0 ∧ k44.C w A0 x.f0.length x.f0 := by
 obtain ⟨_, _, rfl, ⟨A0, c0, rfl, l0, g0⟩, rfl⟩ := h
 exact ⟨A0, c0, rfl, l0, g0⟩
theorem k39_openM {w : World} {base : Nat} {ok : Nat → Prop} {x : S39} {cs : List Value} (h : k39.M w base ok x cs) : ∃ v0, cs = [v0, .bool x.f1] ∧ k44.R 44 w base ok v0 x.f0 := by
 obtain ⟨_, _, rfl, ⟨v0, rfl, g0⟩, rfl⟩ := h
 exact ⟨v0, rfl, g0⟩
theorem k39_mkM (w : World) (base : Nat) (ok : Nat → Prop) (x : S39) {v0 : Value} (g0 : k44.R 44 w base ok v0 x.f0) : k39.M w base ok x [v0, .bool x.f1] := ⟨[v0], [.bool x.f1], rfl, ⟨v0, rfl, g0⟩, rfl⟩
def rd_T39 (xs : List S39) (i : Int) : S39 := xs.getD i.toNat z39
theorem at_T39 {w : World} {A : Option Addr} {n : Nat} {xs : List S39} (h : Kd.C k39 w A n xs) (i : Int) (h0 : 0 ≤ i) (h1 : i < n) : ∃ ad A0 c0, A = some ad ∧ w.cell? (ad.add (i.toNat * 2)) = some (.slice A0 (rd_T39 xs i).f0.length c0) ∧ w.cell? ⟨(ad.add (i.toNat * 2)).block, (ad.add (i.toNat * 2)).off + 1, none⟩ = some (.bool (rd_T39 xs i).f1) ∧ (rd_T39 xs i).f0.length ≤ c0 ∧ k44.C w A0 (rd_T39 xs i).f0.length (rd_T39 xs i).f0 := by
 obtain ⟨ad, c, e, _, hK, hc0⟩ := Kd.C_get h z39 i h0 h1
 have hc : ∀ j u, c[j]? = some u → w.cell? (ad.add (i.toNat * 2 + j)) = some u := hc0
 obtain ⟨A0, c0, rfl, l0, g0⟩ := k39_open hK
 exact ⟨ad, A0, c0, e, hc 0 _ rfl, by rw [← add_field _ _ 1 (by omega)]; exact hc 1 _ rfl, l0, g0⟩

/-! #### struct type 31 -/
structure S31 where
 f0 : (List S34)
 f1 : Bool
def z31 : S31 := ⟨([] : List S34), false⟩
def k31 : Kd S31 := Kd.iso (Kd.pair (Kd.slice 34 k34) Kd.bool) (fun x : S31 => (x.f0, x.f1))
theorem k31_open {w : World} {x : S31} {cs : List Value} (h : k31.K w x cs) : ∃ A0 c0, cs = [.slice A0 x.f0.length c0, .bool x.f1] ∧ x.f0.length ≤ c0 ∧ k34.C w A0 x.f0.length x.f0 := by
 obtain ⟨_, _, rfl, ⟨A0, c0, rfl, l0, g0⟩, rfl⟩ := h
 exact ⟨A0, c0, rfl, l0, g0⟩
def rd_T31 (xs : List S31) (i : Int) : S31 := xs.getD i.toNat z31
theorem at_T31 {w : World} {A : Option Addr} {n : Nat} {xs : List S31} (h : Kd.C k31 w A n xs) (i : Int) (h0 : 0 ≤ i) (h1 : i < n) : ∃ ad A0 c0, A = some ad ∧ w.cell? (ad.add (i.toNat * 2)) = some (.slice A0 (rd_T31 xs i).f0.length c0) ∧ w.cell? ⟨(ad.add (i.toNat * 2)).block, (ad.add (i.toNat * 2)).off + 1, none⟩ = some (.bool (rd_T31 xs i).f1) ∧ (rd_T31 xs i).f0.length ≤ c0 ∧ k34.C w A0 (rd_T31 xs i).f0.length (rd_T31 xs i).f0 := by
 obtain ⟨ad, c, e, _, hK, hc0⟩ := Kd.C_get h z31 i h0 h1
 have hc : ∀ j u, c[j]? = some u → w.cell? (ad.add (i.toNat * 2 + j)) = some u := hc0
 obtain ⟨A0, c0, rfl, l0, g0⟩ := k31_open hK
 exact ⟨ad, A0, c0, e, hc 0 _ rfl, by rw [← add_field _ _ 1 (by omega)]; exact hc 1 _ rfl, l0, g0⟩

/-! #### struct type 75 -/
structure S75 where
 f0 : Int
 f1 : (List S164)
 f2 : Int
 f3 : Int
 f4 : (List S44)
def z75 : S75 := ⟨(0 : Int), ([] : List S164), (0 : Int), (0 : Int), ([] : List S44)⟩
def k75 : Kd S75 := Kd.iso (Kd.pair (Kd.int .i64) (Kd.pair (Kd.slice 164 k164) (Kd.pair (Kd.int .i64) (Kd.pair (Kd.int .i64) (Kd.slice 44 k44))))) (fun x : S75 => (x.f0, x.f1, x.f2, x.f3, x.f4))
def rd_T75 (xs : List S75) (i : Int) : S75 := xs.getD i.toNat z75
/-! #### struct type 69 -/
structure S69 where
 f0 : Int
 f1 : (List S163)
 f2 : Int
 f3 : Int
 f4 : (List S34)
def z69 : S69 := ⟨(0 : Int), ([] : List S163), (0 : Int), (0 : Int), ([] : List S34)⟩
def k69 : Kd S69 := Kd.iso (Kd.pair (Kd.int .i64) (Kd.pair (Kd.slice 163 k163) (Kd.pair (Kd.int .i64) (Kd.pair (Kd.int .i64) (Kd.slice 34 k34))))) (fun x : S69 => (x.f0, x.f1, x.f2, x.f3, x.f4))
def rd_T69 (xs : List S69) (i : Int) : S69 := xs.getD i.toNat z69
end Go.Proofs.Ytfholjcelnkleaa.Print
end
section
namespace Go.Proofs.Ytfholjcelnkleaa.Print
open Go.RowKit Go.Proofs.YtfholjcelnkleaaV.PrintWords Go.Proofs.YtfholjcelnkleaaV.PrintLast Go.Proofs.YtfholjcelnkleaaV.PrintMore
set_option linter.unusedVariables false
set_option linter.unusedSimpArgs false
namespace Kd
variable {α : Type} {d : Kd α} {e n m cap g base : Nat} {w w1 W : World} {ok : Nat → Prop} {v : Value} {xs : List α}
theorem S_ltz (hz : n = w.heap.size) (h : Kd.S d e w base ok v xs) : Kd.S d e w base (fun k => ok k ∧ k < n) v xs := Kd.S_mono (Kd.S_bound h) (fun k hk => ⟨hk.1, by have := hk.2.2.1; omega⟩)
theorem R_ltz (hz : n = w.heap.size) (h : Kd.R d e w base ok v xs) : Kd.R d e w base (fun k => ok k ∧ k < n) v xs := Kd.R_mono (Kd.R_bound h) (fun k hk => ⟨hk.1, by have := hk.2.2.1; omega⟩)
theorem S_gez (hz : n = W.heap.size) (h : Kd.S d e w W.heap.size ok v xs) : Kd.S d e w W.heap.size (fun k => ok k ∧ n ≤ k) v xs := Kd.S_mono (Kd.S_bound h) (fun k hk => ⟨hk.1, by have := hk.2.1; omega⟩)
theorem R_gez (hz : n = W.heap.size) (h : Kd.R d e w W.heap.size ok v xs) : Kd.R d e w W.heap.size (fun k => ok k ∧ n ≤ k) v xs := Kd.R_mono (Kd.R_bound h) (fun k hk => ⟨hk.1, by have := hk.2.1; omega⟩)
theorem S_name (_h : Kd.S d e w W.heap.size ok v xs) : ∃ n, n = W.heap.size := ⟨_, rfl⟩
theorem R_name (_h : Kd.R d e w W.heap.size ok v xs) : ∃ n, n = W.heap.size := ⟨_, rfl⟩
theorem S_fp (h : Kd.S d e w base ok v xs) : ∃ P : Nat → Prop, Kd.S d e w base P v xs ∧ ∀ k, P k → ok k ∧ base ≤ k ∧ ∃ q, q ∈ e :: d.E ∧ ∃ cells, w.heap[k]? = some (.cells cells q (0, 0)) := ⟨_, Kd.S_bound h, fun _ hk => ⟨hk.1, hk.2.1, hk.2.2.2⟩⟩
theorem R_fp (h : Kd.R d e w base ok v xs) : ∃ P : Nat → Prop, Kd.R d e w base P v xs ∧ ∀ k, P k → ok k ∧ base ≤ k ∧ ∃ q, q ∈ e :: d.E ∧ ∃ cells, w.heap[k]? = some (.cells cells q (0, 0)) := ⟨_, Kd.R_bound h, fun _ hk => ⟨hk.1, hk.2.1, hk.2.2.2⟩⟩
theorem R_fpt (hE : d.E = []) (h : Kd.R d e w base ok v xs) : ∃ P : Nat → Prop, Kd.R d e w base P v xs ∧ ∀ k, P k → (ok k ∧ some k = v.ownBlock) ∧ base ≤ k ∧ ∃ q, q ∈ e :: d.E ∧ ∃ cells, w.heap[k]? = some (.cells cells q (0, 0)) :=
  ⟨_, Kd.R_bound (Kd.R_tight hE h), fun k hk => ⟨⟨h.1 k hk.1.symm, hk.1⟩, hk.2.1, hk.2.2.2⟩⟩
end Kd
theorem no_blk {W : World} {g t : Nat} {cells : Array Value} {E : List Nat} (hb : W.heap[g]? = some (.cells cells t (0, 0))) (ht : ∀ q, q ∈ E → q ≠ t) (h : ∃ q, q ∈ E ∧ ∃ c, W.heap[g]? = some (.cells c q (0, 0))) : False := by
  obtain ⟨q, hq, c, hc⟩ := h
  rw [hc] at hb
  injection hb with hb
  injection hb with _ hb
  exact ht q hq hb
section
variable {α : Type} {d : Kd α} {e n cap g base : Nat} {W : World} {ok : Nat → Prop} {v : Value} {xs : List α} {x : α} {i : Int}
theorem S_begin (h : Kd.S d e W base ok v xs) (z : α) (i : Int) (h0 : 0 ≤ i) (h1 : i < (xs.length : Int)) : Kd.S d e W base ok v (xs.set i.toNat (xs.getD i.toNat z)) := by
  have hi : i.toNat < xs.length := by omega
  rw [List.getD_eq_getElem?_getD, List.getElem?_eq_getElem hi]
  simpa using h
theorem S_hand (h : Kd.S d e W base ok (.slice (some ⟨g, 0, none⟩) n cap) (xs.set i.toNat x)) (h0 : 0 ≤ i) (h1 : i < (xs.length : Int)) :
    ∃ (oki : Nat → Prop) (c : List Value), d.M W base oki x c ∧ (∀ j u, c[j]? = some u → W.cell? ⟨g, i.toNat * d.sz + j, none⟩ = some u) ∧ (∀ j, W.frozen? ⟨g, i.toNat * d.sz + j, none⟩ = false) ∧ (∀ k, oki k → ok k ∧ k ≠ g) ∧
      (∀ w1 x', Kept W w1 oki → d.M w1 base oki x' c → Kd.S d e w1 base ok (.slice (some ⟨g, 0, none⟩) n cap) (xs.set i.toNat x')) ∧
      (∀ u j x', u.oneCell' = true → j + 1 ≤ d.sz → d.M W base oki x' (c.take j ++ [u] ++ c.drop (j + 1)) → Kd.S d e (W.setCells g (i.toNat * d.sz + j) [u]) base ok (.slice (some ⟨g, 0, none⟩) n cap) (xs.set i.toNat x') ∧ W.grownBy (W.setCells g (i.toNat * d.sz + j) [u]) (some g)) := by
  have hn := (Kd.S_reads' h).1
  rw [List.length_set] at hn
  have hi : i.toNat < xs.length := by omega
  obtain ⟨oki, c, hcl, hM, hcc, hfr, hoki, hH⟩ := Kd.S_elem (Kd.S_mono (ok' := fun k => ok k ∧ ¬ False) h (fun k hk => ⟨hk, id⟩)) x i h0 (by omega)
  rw [List.getD_eq_getElem?_getD, List.getElem?_set_self hi, Option.getD_some] at hM
  refine ⟨oki, c, hM, hcc, hfr, fun k hk => ⟨(hoki k hk).1.1, (hoki k hk).2⟩, fun w1 x' hk hM1 => ?_, fun u j x' hu hj hM1 => ?_⟩
  · have h2 := Kd.H_back (Kd.H_step hH (fun k _ hn hlt => hk.2 k hlt hn)) hM1 (fun _ hk => hk)
    rw [List.set_set] at h2
    exact Kd.S_mono h2 (fun k hk => hk.1)
  · obtain ⟨h2, h3⟩ := Kd.S_seg (okg := fun _ => False) hH h0 (by omega) (seg := [u]) (j := j) hj hM1 (fun k hk => .inl hk) (fun _ hk => hk.elim)
    rw [List.set_set] at h2
    exact ⟨h2, h3⟩
end

end Go.Proofs.Ytfholjcelnkleaa.Print
end
section
namespace Go.Proofs.Ytfholjcelnkleaa.Print
open Go.RowKit Go.Proofs.YtfholjcelnkleaaV.PrintWords Go.Proofs.YtfholjcelnkleaaV.PrintLast Go.Proofs.YtfholjcelnkleaaV.PrintMore
attribute [local go_sem] max2_int min2_int max_two min_two max_three min_three max_four min_four
set_option linter.unusedVariables false
set_option linter.unusedSimpArgs false
set_option maxHeartbeats 8000000
set_option maxRecDepth 100000
def spec_l4Copy.f (l0_0 : List (S164)) (a0_1 : Int) (a0_2 : Int) (a0_3 : ByteArray) : Option ((List (S164)) × Int × Int × ByteArray) := (some (([] : List (S164)) : List (S164))).bind fun y221 => (if y221.length + l0_0.length < 4398046511104 then (some ((y221 ++ l0_0), a0_1, a0_2, a0_3)) else (none))
theorem spec_l4Copy.calls (A0_0 : Option Addr) (c0_0 : Nat) (l0_0 : List (S164)) (a0_1 : Int) (a0_2 : Int) (a0_3 : ByteArray) (r1 : List (S164)) (r2 : Int) (r3 : Int) (r4 : ByteArray) (w : World) (hr0_0 : Kd.C k164 w A0_0 l0_0.length l0_0) (hc0_0 : l0_0.length ≤ c0_0) (h : spec_l4Copy.f l0_0 a0_1 a0_2 a0_3 = some (r1, r2, r3, r4)) :
  Calls Try.prog 94 #[.agg #[.slice A0_0 l0_0.length c0_0, .int .i64 a0_1, .int .i64 a0_2, .string a0_3]] w fun e w' => ∃ v0_ : Value, e = .returned (.agg #[v0_, .int .i64 r2, .int .i64 r3, .string r4]) ∧ Kd.R k164 164 w' w.heap.size (fun _ => True) v0_ r1 ∧ Below w.heap.size w w' := by
 have hu44 := Try.underlying44
 have HR0_0 := Aside0.mk hr0_0
 have HC0_0 := Aside0.mk hc0_0
 clear hr0_0 hc0_0
 have HB := Aside0.mk (Below.refl w.heap.size w)
 have H : ((some (([] : List (S164)) : List (S164))).bind fun y221 => (if y221.length + l0_0.length < 4398046511104 then (some ((y221 ++ l0_0), a0_1, a0_2, a0_3)) else (none))) = some (r1, r2, r3, r4) := h
 clear h
 obtain ⟨y221, hy221⟩ : ∃ y_ : List (S164), y_ = (([] : List (S164))) := ⟨_, rfl⟩
 replace H : (if y221.length + l0_0.length < 4398046511104 then (some ((y221 ++ l0_0), a0_1, a0_2, a0_3)) else (none)) = some (r1, r2, r3, r4) := by first | (rw [hy221]; with_reducible exact H) | (have H2_ := (Option.bind_some _ _).symm.trans H; rw [hy221]; with_reducible exact H2_) | (have H2_ := (Option.bind_some _ _).symm.trans H; with_reducible exact H2_) | with_reducible exact H | (rw [hy221]; exact H) | exact H
 have Ny221 := Aside0.mk hy221
 clear hy221
 by_cases c2 : y221.length + l0_0.length < 4398046511104
 ·
  rw [if_pos c2] at H
  have LMc2 := Aside0.mk c2
  clear c2
  obtain ⟨y224, hy224⟩ : ∃ y_ : List (S164), y_ = (y221 ++ l0_0) := ⟨_, rfl⟩
  replace H : (some (y224, a0_1, a0_2, a0_3)) = some (r1, r2, r3, r4) := by first | (rw [hy224]; with_reducible exact H) | (have H2_ := (Option.bind_some _ _).symm.trans H; rw [hy224]; with_reducible exact H2_) | (have H2_ := (Option.bind_some _ _).symm.trans H; with_reducible exact H2_) | with_reducible exact H | (rw [hy224]; exact H) | exact H
  have Ny224 := Aside0.mk hy224
  clear hy224
  simp only [Option.some.injEq, Prod.mk.injEq] at H
  obtain ⟨rfl, rfl, rfl, rfl⟩ := H
  go_enter Try.func94, Try.ntmps94
  go_wp2_with (first | ((with_reducible refine gd_ 1 rfl ?_); refine bv_ 1 #[.slice A0_0 l0_0.length c0_0, .int .i64 a0_1, .int .i64 a0_2, .string a0_3] 44 ?_; intro gb219 hg w3 hbox hb; have BK219 := Aside0.mk (hbox); have GW219 := Aside0.mk ((gw_ hg (hs_ HB.out))); replace HB := st_ HB hb; have GE219 := Ge_.mk GW219.out; clear hb hbox hg) | ((with_reducible refine gd_ 2 rfl ?_); refine bv_ 2 #[.slice none 0 0, .int .i64 0, .int .i64 0, .string (⟨#[]⟩ : ByteArray)] 44 ?_; intro gb220 hg w4 hbox hb; have BK220 := Aside0.mk (hbox); have GW220 := Aside0.mk ((gw_ hg (hs_ HB.out))); replace HB := st_ HB hb; have GE220 := Ge_.mk GW220.out; have NB219_220 := Ne_.mk (nl_ BK219.out hg); replace BK219 := bk2_ BK219 hb; have NB220_219 := Ne_.mk (NB219_220.out.symm); clear hb hbox hg) | ((with_reducible refine gd_ 3 rfl ?_); refine Kd.R_lit k164 _ 164 ?hg (N := 3) ?hd (xs := ([] : List (S164))) (inner := []) (ok := fun _ => True) (okp := fun _ => True) ?hr ?hp (fun _ hk => hk) trivial (Below.refl _ _) (Nat.le_refl _) (by simp) ?_; (case hd => rfl); (case hg => rfl); (case hr => first | (go_simp; done) | (go_simp; rfl)); (case hp => exact (Reps.none _ _)); intro v222 w5 ho6 hb hg_ hnew_; clear hg_ hnew_; (first | rw [← Ny221.out] at ho6 | (simp only [Int.reduceToNat] at ho6; rw [← Ny221.out] at ho6)); have HO223 := Aside0.mk (Kd.R_lower ho6 (below_size (hs_ HB.out))); replace BK219 := bk2_ BK219 hb; replace BK220 := bk2_ BK220 hb; replace HB := st_ HB hb; clear hb ho6; have hnb7 := NB219_220.out; have hnc7 := NB220_219.out; obtain ⟨z8_0, z8_1, z8_2, z8_3, y8_0, y8_1, y8_2, y8_3⟩ := bc4_ BK219.out) | ((with_reducible refine gate_builtin (b := .append) (xs := #[.tmp 3, .tmp 5]) rfl ?_); at_builtin; refine Kd.R_append_rows k164 (w0 := w) w.heap.size rfl (.tmp 3) (.tmp 5) 42 164 (.agg #[(.string ⟨#[]⟩), (.string ⟨#[]⟩)]) 32 rfl Try.underlying42 info164 rfl (by decide) (by omega) v222 y221 l0_0 _ _ _ (fun _ => True) (fun _ => False) rfl rfl ?aO ?aR (fun _ _ h => h) (fun _ h => h.elim) ?aF ?aB ?aS ?aL ?_; (case aR => repeat (first | exact (Kd.C_below HR0_0.out HB.out) | (with_reducible first | refine ca_ ?_ _ | refine cn_ ?_ _ | refine cd_ ?_))); (case aB => exact (hs_ HB.out)); (case aF => exact (fun _ _ => trivial)); (case aO => exact (rp_ HO223.out)); (case aS => exact (below_size (hs_ HB.out))); (case aL => have := LMc2.out; omega); intro v225 w9 ho hb hg hat; rw [← Ny224.out] at ho; replace BK219 := Aside0.mk (blk_grown (bq_ BK219.out) hg (Kd.R_ne HO223.out BK219.out (by decide))); replace BK220 := Aside0.mk (blk_grown (bq_ BK220.out) hg (Kd.R_ne HO223.out BK220.out (by decide))); replace HB := Aside0.mk (hb); have HO226 := Aside0.mk (ho); clear HO223; clear ho hb hg hat; obtain ⟨Ao10, co10, eo10⟩ := Kd.R_slice HO226.out; subst eo10; obtain ⟨z11_0, z11_1, z11_2, z11_3, y11_0, y11_1, y11_2, y11_3⟩ := bc4_ BK219.out; obtain ⟨z12_0, z12_1, z12_2, z12_3, y12_0, y12_1, y12_2, y12_3⟩ := bc4_ BK220.out))
  refine bodyPost_ret (results_cell_row rfl _ _ gb220 44 #[.slice Ao10 y224.length co10, .int .i64 a0_1, .int .i64 a0_2, .string a0_3] (0, 0) _ rfl (bp_ BK220.out) Try.underlying44 rfl (by kernel_rfl)) rfl ?_
  exact ⟨_, by first | rfl | (simp [errW_none, errW_some] <;> rfl) | (simp [*, errW_none, errW_some] <;> rfl), by (with_reducible repeat (first | apply Kd.R_alloc | apply Kd.R_drewN | apply Kd.R_drew)); exact Kd.R_mono (rf_ gb220 (Kd.R_far (p := ⟨gb219, 0, none⟩) (Kd.R_types (Kd.R_types HO226.out BK219.out (by decide)) BK220.out (by decide)) (fun _ hk => hk.1.2) (.slice Ao10 y224.length co10)) (fun _ hk => hk.2)) (fun _ hk => trivial), by exact hs_ HB.out⟩
 rw [if_neg c2] at H
 exact absurd H (by simp)
def spec_l4All.l0 : Nat → List (S44) → List (S44) → Int → Option ((List (S44)))
 | 0, _, _, _ => none
 | k + 1, x0, x3, x4 => if x4 < (x0.length : Int) then (if 0 ≤ x4 then ((spec_l4Copy.f ((rd_T44 x0 x4).f0) ((rd_T44 x0 x4).f1) ((rd_T44 x0 x4).f2) ((rd_T44 x0 x4).f3)).bind fun bt231 => (if x3.length < 2513169434916 then (spec_l4All.l0 k x0 (x3 ++ [(⟨bt231.1, bt231.2.1, bt231.2.2.1, bt231.2.2.2⟩ : S44)]) (wrap64 (x4 + 1))) else (none))) else (none)) else (some x3)
def spec_l4All.f (k : Nat) (l0 : List (S44)) : Option ((List (S44))) := spec_l4All.l0 k l0 (([] : List (S44))) 0
theorem spec_l4All.mono_l : ∀ k, (∀ y0 y1 y2, LeO (spec_l4All.l0 k y0 y1 y2) (spec_l4All.l0 (k + 1) y0 y1 y2))
 | 0 => fun _ _ _ r h => by simp [spec_l4All.l0] at h
 | k + 1 => by
  have ih0 := spec_l4All.mono_l k
  intro y0 y1 y2
  unfold spec_l4All.l0
  repeat' first
  | (with_reducible exact ih0 _ _ _)
  | (with_reducible exact LeO.refl _)
  | (with_reducible exact LeO.none _)
  | (with_reducible refine LeO.ite ?_ ?_)
  | (with_reducible refine LeO.bind ?_ (fun _ => ?_))
  | exact ih0 _ _ _
theorem spec_l4All.mono : ∀ a0 k, LeO (spec_l4All.f k a0) (spec_l4All.f (k + 1) a0) := by
 intro a0 k
 have ih0 := spec_l4All.mono_l k
 unfold spec_l4All.f
 repeat' first | (with_reducible first | exact ih0 _ _ _ | exact LeO.refl _ | exact LeO.none _ | refine LeO.ite ?_ ?_ | refine LeO.bind ?_ (fun _ => ?_)) | exact ih0 _ _ _
theorem spec_l4All.calls (k : Nat) (A0 : Option Addr) (c0 : Nat) (l0 : List (S44)) (r : List (S44)) (w : World) (hr0 : Kd.C k44 w A0 l0.length l0) (hc0 : l0.length ≤ c0) (h : spec_l4All.f k l0 = some r) :
  Calls Try.prog 100 #[.slice A0 l0.length c0] w fun e w' => ∃ v0_ : Value, e = .returned (v0_) ∧ Kd.S k44 44 w' w.heap.size (fun _ => True) v0_ r ∧ Below w.heap.size w w' := by
 have hu44 := Try.underlying44
 have HR0 := Aside0.mk hr0
 have HC0 := Aside0.mk hc0
 clear hr0 hc0
 have HB := Aside0.mk (Below.refl w.heap.size w)
 have H : (spec_l4All.l0 k l0 (([] : List (S44))) 0) = some r := h
 clear h
 obtain ⟨y227, hy227⟩ : ∃ y_ : List (S44), y_ = (([] : List (S44))) := ⟨_, rfl⟩
 replace H : (spec_l4All.l0 k l0 y227 0) = some r := by first | (rw [hy227]; with_reducible exact H) | (have H2_ := (Option.bind_some _ _).symm.trans H; rw [hy227]; with_reducible exact H2_) | (have H2_ := (Option.bind_some _ _).symm.trans H; with_reducible exact H2_) | with_reducible exact H | (rw [hy227]; exact H) | exact H
 have Ny227 := Aside0.mk hy227
 clear hy227
 have H' := Aside0.mk H
 clear H
 go_enter Try.func100, Try.ntmps100
 go_wp2_with (first | ((with_reducible refine gd_ 6 rfl ?_); refine Kd.S_lit k44 _ 44 ?hg (N := 6) ?hd (xs := ([] : List (S44))) (inner := []) (ok := fun _ => True) (okp := fun _ => True) ?hr ?hp (fun _ hk => hk) trivial (Below.refl _ _) (Nat.le_refl _) (by simp) ?_; (case hd => rfl); (case hg => rfl); (case hr => first | (go_simp; done) | (go_simp; rfl)); (case hp => exact (Reps.none _ _)); intro v228 w2 ho3 hb hg_ hnew_; clear hg_ hnew_; (first | rw [← Ny227.out] at ho3 | (simp only [Int.reduceToNat] at ho3; rw [← Ny227.out] at ho3)); have HO229 := Aside0.mk (Kd.S_lower ho3 (below_size (hs_ HB.out))); have n1_ := st_ HB hb; clear HB; have HB := n1_; clear n1_; clear hb ho3))
 go_loopg [3, 4] k (fun kq v3 v4 w' => ∃ (x3_1 : List (S44)) (x4_1 : Int), v4 = .int .i64 x4_1 ∧ Aside0 (spec_l4All.l0 kq l0 x3_1 x4_1 = some r) ∧ Aside0 (kq ≤ k) ∧ Aside0 (Kd.S k44 44 w' w.heap.size (fun _ => True) v3 x3_1) ∧ Aside0 (Below w.heap.size w w'))
 case atStart => exact ⟨(y227), (0), (by first | rfl | (simp; done) | (simp [*]; done)), H', ⟨Nat.le_refl _⟩, ⟨by (with_reducible repeat (first | apply Kd.S_alloc | apply Kd.S_drewN | apply Kd.S_drew)); exact HO229.out⟩, ⟨by exact hs_ HB.out⟩⟩
 case round =>
  clear H'
  try clear c1
  try clear p2
  obtain ⟨x3_1, x4_1, rfl, HA, HK1, HO_3, HB⟩ := hrel
  cases gk with
  | zero => exact absurd HA.out (by simp [spec_l4All.l0])
  | succ k1 =>
   have H := HA.out
   clear HA
   simp only [spec_l4All.l0] at H
   by_cases c4 : x4_1 < (l0.length : Int)
   ·
    rw [if_pos c4] at H
    have c4b0 := decide_eq_true c4
    clear c4
    by_cases c5 : 0 ≤ x4_1
    ·
     rw [if_pos c5] at H
     have c5b0 := decide_eq_true c5
     clear c5
     replace H := Option.bind_eq_some_iff.mp H
     obtain ⟨⟨t231, t234, t235, t236⟩, A60, H⟩ := H
     have A6 := Aside0.mk A60
     clear A60
     by_cases c7 : x3_1.length < 2513169434916
     ·
      rw [if_pos c7] at H
      have LMc7 := Aside0.mk c7
      clear c7
      obtain ⟨y238, hy238⟩ : ∃ y_ : List (S44), y_ = (x3_1 ++ [(⟨t231, t234, t235, t236⟩ : S44)]) := ⟨_, rfl⟩
      replace H : (spec_l4All.l0 k1 l0 y238 (wrap64 (x4_1 + 1))) = some r := by first | (rw [hy238]; with_reducible exact H) | (have H2_ := (Option.bind_some _ _).symm.trans H; rw [hy238]; with_reducible exact H2_) | (have H2_ := (Option.bind_some _ _).symm.trans H; with_reducible exact H2_) | with_reducible exact H | (rw [hy238]; exact H) | exact H
      have Ny238 := Aside0.mk hy238
      clear hy238
      have H' := Aside0.mk H
      clear H
      have p230 : 0 ≤ (x4_1 : Int) := of_decide_eq_true (by with_reducible assumption)
      have q230 : x4_1 < (l0.length : Int) := of_decide_eq_true (by with_reducible assumption)
      obtain ⟨ad230, A230_0, c230_0, e230, hx230_0, hx230_1, hx230_2, hx230_3, hl230_0, hi230_0⟩ := at_T44 HR0.out x4_1 p230 q230
      cases e230
      replace hx230_0 := cl_ HB.out hx230_0
      replace hx230_1 := cl_ HB.out hx230_1
      replace hx230_2 := cl_ HB.out hx230_2
      replace hx230_3 := cl_ HB.out hx230_3
      have HR230_0 := Aside0.mk hi230_0
      have HC230_0 := Aside0.mk hl230_0
      clear hi230_0 hl230_0
      replace p230 := eq_true p230
      replace q230 := eq_true q230
      go_wp2_with (first | ((with_reducible refine gate_callee (f := 94) rfl ?_); refine gl_ (some 17) Try.func94 #[.agg #[.slice A230_0 ((rd_T44 l0 x4_1).f0).length c230_0, .int .i64 ((rd_T44 l0 x4_1).f1), .int .i64 ((rd_T44 l0 x4_1).f2), .string ((rd_T44 l0 x4_1).f3)]] ?_; (with_reducible refine (spec_l4Copy.calls _ _ ((rd_T44 l0 x4_1).f0) ((rd_T44 l0 x4_1).f1) ((rd_T44 l0 x4_1).f2) ((rd_T44 l0 x4_1).f3) t231 t234 t235 t236 _ ?side1 ?side2 A6.out).mono ?_); (case side1 => exact cp_ ((Kd.C_below HR230_0.out HB.out))); (case side2 => exact HC230_0.out); rintro e w8 ⟨v232, rfl, ho0, hb⟩; refine ⟨_, rfl, ?_⟩; replace HO_3 := Aside0.mk (Kd.S_elder' (sp_ HO_3.out) (Kd.R_base ho0) hb); have HO233 := Aside0.mk (Kd.R_lower ho0 (below_size (hs_ HB.out))); replace HB := st_ HB hb; (try clear hb); (try clear hk); (try clear ho0)) | ((with_reducible refine gd_ 5 rfl ?_); refine bv_ 5 #[.slice none 0 0, .int .i64 0, .int .i64 0, .string (⟨#[]⟩ : ByteArray)] 44 ?_; intro gb237 hg w9 hbox hb; replace HO_3 := Aside0.mk (Kd.S_below (Kd.S_elderB (sp_ HO_3.out) gb237 (Nat.le_of_eq hg.symm)) hb); replace HO233 := Aside0.mk (Kd.R_below (rp_ HO233.out) hb); have BK237 := Aside0.mk (hbox); have GW237 := Aside0.mk ((gw_ hg (hs_ HB.out))); replace HB := st_ HB hb; have GE237 := Ge_.mk GW237.out; clear hb hbox hg; obtain ⟨Ao10, co10, eo10⟩ := Kd.R_slice HO233.out; subst eo10; obtain ⟨z11_0, z11_1, z11_2, z11_3, y11_0, y11_1, y11_2, y11_3⟩ := bc4_ BK237.out) | ((with_reducible refine gate_store (t := 44) (p := 5) rfl ?_); refine store_event (t := 44) (p := 5) (v := ?vo_w12) (w1 := ((((w9.setCell ⟨gb237, 0, none⟩ (.slice Ao10 t231.length co10)).setCell ⟨gb237, 1, none⟩ (.int .i64 t234)).setCell ⟨gb237, 2, none⟩ (.int .i64 t235)).setCell ⟨gb237, 3, none⟩ (.string t236))) ?hg ?ho ?hn ?hr ?_; (case ho => rfl); (case hg => rfl); (case hn => rfl); (case hr => first | (go_simp; done) | (go_simp; rfl)); intro w12 hw; replace HO_3 : Aside0 (Kd.S k44 44 w12 w.heap.size (fun k_ => some k_ ≠ (.slice Ao10 t231.length co10 : Value).ownBlock ∧ k_ ≠ gb237) u3 x3_1) := ⟨(by rw [hw]; exact (Kd.S_mono (sf_ gb237 (Kd.S_mono HO_3.out (fun k_ hk => (⟨hk, hk.2⟩ : _ ∧ k_ ≠ gb237))) (fun _ hk => hk.2)) (fun _ hk => ⟨hk.1.1.2, hk.1.2⟩)))⟩; replace HO233 : Aside0 (Kd.R k164 164 w12 w.heap.size (fun _ => True) (.slice Ao10 t231.length co10) t231) := ⟨(by rw [hw]; exact (Kd.R_mono (rf_ gb237 (Kd.R_types HO233.out BK237.out (by decide)) (fun _ hk => hk.2)) (fun _ hk => trivial)))⟩; replace BK237 : Aside0 (w12.heap[gb237]? = some (.cells #[.slice Ao10 t231.length co10, .int .i64 t234, .int .i64 t235, .string t236] 44 (0, 0))) := ⟨(by rw [hw]; exact (bp_ BK237.out))⟩; replace HB : Aside0 (Below w.heap.size w w12) := ⟨(by rw [hw]; exact (hs_ HB.out))⟩; clear hw; obtain ⟨z13_0, z13_1, z13_2, z13_3, y13_0, y13_1, y13_2, y13_3⟩ := bc4_ BK237.out) | ((with_reducible refine gate_builtin (b := .append) (xs := #[.tmp 18, .tmp 20]) rfl ?_); at_builtin; refine Kd.S_append k44 (w0 := w) w.heap.size rfl (.tmp 18) (.tmp 20) 37 44 (.agg #[(.slice none 0 0), (.int .i64 0), (.int .i64 0), (.string ⟨#[]⟩)]) 56 rfl Try.underlying37 info44 rfl (by decide) (by omega) u3 x3_1 (⟨t231, t234, t235, t236⟩ : S44) [.slice Ao10 t231.length co10, .int .i64 t234, .int .i64 t235, .string t236] (fun k_ => k_ ≠ gb237) (fun k_ => some k_ = (.slice Ao10 t231.length co10 : Value).ownBlock) rfl rfl ?aP (fun k_ hk_ => ((Kd.R_mono (ok' := fun k_ => ((fun k_ => k_ ≠ gb237)) k_ ∧ some k_ ≠ (u3 : Value).ownBlock) (Kd.R_types (Kd.R_apart' (HO233.out) (Kd.S_typed HO_3.out) (by decide)) BK237.out (by decide)) (fun k_ hk => ⟨hk.2, hk.1.2⟩))).1 k_ hk_.symm) ?aF ?aO ?aB ?aS ?aL ?_; (case aP => exact k44_mkM _ _ _ (⟨t231, t234, t235, t236⟩ : S44) (Kd.R_mono (Kd.R_tight rfl (Kd.R_mono (ok' := fun k_ => ((fun k_ => k_ ≠ gb237)) k_ ∧ some k_ ≠ (u3 : Value).ownBlock) (Kd.R_types (Kd.R_apart' (HO233.out) (Kd.S_typed HO_3.out) (by decide)) BK237.out (by decide)) (fun k_ hk => ⟨hk.2, hk.1.2⟩))) (fun _ h_ => h_))); (case aB => exact (hs_ HB.out)); (case aF => exact (fun k_ hk => Kd.freshB (g := gb237) (o := .cells #[.slice Ao10 t231.length co10, .int .i64 t234, .int .i64 t235, .string t236] 44 (0, 0)) (pb_ BK237.out) k_ hk)); (case aO => exact (Kd.S_mono (sp_ HO_3.out) (fun k_ hk => ⟨hk.2, fun e_ => hk.1 e_⟩))); (case aS => exact (below_size (hs_ HB.out))); (case aL => have := LMc7.out; omega); intro v239 w14 ho hb hg hat; rw [← Ny238.out] at ho; replace BK237 := Aside0.mk (blk_grown (bq_ BK237.out) hg (Kd.S_away HO_3.out (fun _ hk => hk.2))); replace HB := Aside0.mk (hb); have HO240 := Aside0.mk (ho); clear HO_3 HO233; clear ho hb hg hat))
      go_roundg k1
      case measure => have := HK1.out; omega
      case rel => exact ⟨(y238), (wrap64 (x4_1 + 1)), (by first | rfl | (simp; done) | (simp [*]; done)), H', ⟨by have := HK1.out; omega⟩, ⟨by (with_reducible repeat (first | apply Kd.S_alloc | apply Kd.S_drewN | apply Kd.S_drew)); exact Kd.S_mono HO240.out (fun _ hk => trivial)⟩, ⟨by exact hs_ HB.out⟩⟩
     rw [if_neg c7] at H
     exact absurd H (by simp)
    rw [if_neg c5] at H
    exact absurd H (by simp)
   rw [if_neg c4] at H
   have c4b0 : decide (x4_1 < (l0.length : Int)) = false := decide_eq_false c4
   clear c4
   obtain rfl := Option.some.inj H
   go_wp2
   go_ret
   exact ⟨_, by first | rfl | (simp [errW_none, errW_some] <;> rfl) | (simp [*, errW_none, errW_some] <;> rfl), by (with_reducible repeat (first | apply Kd.S_alloc | apply Kd.S_drewN | apply Kd.S_drew)); exact HO_3.out, by exact hs_ HB.out⟩
def spec_l9Copy.f (k : Nat) (l0_0 : List (S44)) (a0_1 : Bool) : Option ((List (S44)) × Bool) := (spec_l4All.f k l0_0).bind fun t243 => (some (t243, a0_1))
theorem spec_l9Copy.mono : ∀ a0 a1 k, LeO (spec_l9Copy.f k a0 a1) (spec_l9Copy.f (k + 1) a0 a1) := by
 intro a0 a1 k
 unfold spec_l9Copy.f
 repeat' first | (with_reducible first | exact spec_l4All.mono _ _ | exact LeO.refl _ | exact LeO.none _ | refine LeO.ite ?_ ?_ | refine LeO.bind ?_ (fun _ => ?_)) | exact spec_l4All.mono _ _
theorem spec_l9Copy.calls (k : Nat) (A0_0 : Option Addr) (c0_0 : Nat) (l0_0 : List (S44)) (a0_1 : Bool) (r1 : List (S44)) (r2 : Bool) (w : World) (hr0_0 : Kd.C k44 w A0_0 l0_0.length l0_0) (hc0_0 : l0_0.length ≤ c0_0) (h : spec_l9Copy.f k l0_0 a0_1 = some (r1, r2)) :
  Calls Try.prog 93 #[.agg #[.slice A0_0 l0_0.length c0_0, .bool a0_1]] w fun e w' => ∃ v0_ : Value, e = .returned (.agg #[v0_, .bool r2]) ∧ Kd.S k44 44 w' w.heap.size (fun _ => True) v0_ r1 ∧ Below w.heap.size w w' := by
 have hu39 := Try.underlying39
 have HR0_0 := Aside0.mk hr0_0
 have HC0_0 := Aside0.mk hc0_0
 clear hr0_0 hc0_0
 have HB := Aside0.mk (Below.refl w.heap.size w)
 have H : ((spec_l4All.f k l0_0).bind fun t243 => (some (t243, a0_1))) = some (r1, r2) := h
 clear h
 replace H := Option.bind_eq_some_iff.mp H
 obtain ⟨t243, A20, H⟩ := H
 have A2 := Aside0.mk A20
 clear A20
 simp only [Option.some.injEq, Prod.mk.injEq] at H
 obtain ⟨rfl, rfl⟩ := H
 go_enter Try.func93, Try.ntmps93
 try go_wp2_with (first | ((with_reducible refine gd_ 1 rfl ?_); refine bv_ 1 #[.slice A0_0 l0_0.length c0_0, .bool a0_1] 39 ?_; intro gb241 hg w3 hbox hb; have BK241 := Aside0.mk (hbox); have GW241 := Aside0.mk ((gw_ hg (hs_ HB.out))); replace HB := st_ HB hb; have GE241 := Ge_.mk GW241.out; clear hb hbox hg) | ((with_reducible refine gd_ 2 rfl ?_); refine bv_ 2 #[.slice none 0 0, .bool false] 39 ?_; intro gb242 hg w4 hbox hb; have BK242 := Aside0.mk (hbox); have GW242 := Aside0.mk ((gw_ hg (hs_ HB.out))); replace HB := st_ HB hb; have GE242 := Ge_.mk GW242.out; have NB241_242 := Ne_.mk (nl_ BK241.out hg); replace BK241 := bk2_ BK241 hb; have NB242_241 := Ne_.mk (NB241_242.out.symm); clear hb hbox hg))
 replace BK241 := Aside0.mk (blk_drew BK241.out)
 replace BK242 := Aside0.mk (blk_drew BK242.out)
 replace HB := Aside0.mk (bd_ HB.out)
 refine start_ (n := 7) (S := fun w' => w'.cell? ⟨gb241, 0, none⟩ = some (.slice A0_0 l0_0.length c0_0) ∧ w'.cell? ⟨gb241, 1, none⟩ = some (.bool a0_1)) (ds := []) #[f_,f_,f_,f_,f_,f_,f_] (by kernel_rfl) rfl rfl ⟨bx_ BK241.out 0, bx_ BK241.out 1⟩ (fun hHeld => ?_)
 generalize w4.drew = w5 at BK241 BK242 HB hHeld ⊢
 refine pure_ (i := 0) (N := some 3) (v := ?_) (a' := ?_) #[t_,f_,f_,f_,f_,f_,f_] rfl rfl (by kernel_rfl) (fun _ _ _ h => h) (Or.inl ⟨by rfl, ?_⟩) ?_ ?_
 rotate_left
 ·
  intro w'
  go_simp
  with_reducible rfl
 rotate_left
 ·
  simp only [fr_]
  rfl
 refine pure_ (i := 2) (N := some 5) (v := ?_) (a' := ?_) #[t_,f_,t_,f_,f_,f_,f_] rfl rfl (by kernel_rfl) (fun _ _ _ h => h) (Or.inl ⟨by rfl, ?_⟩) ?_ ?_
 rotate_left
 ·
  intro w'
  go_simp
  with_reducible rfl
 rotate_left
 ·
  simp only [fr_]
  rfl
 refine take_ (i := 1) (N := some 4) (v := ?_) (a' := ?_) #[t_,t_,t_,f_,f_,f_,f_] rfl rfl (by kernel_rfl) (fun _ _ _ h => h) (Or.inl ⟨by rfl, ?_⟩) hHeld ?_ ?_
 rotate_left
 ·
  rintro w' ⟨s0, s1⟩
  go_simp
  with_reducible rfl
 rotate_left
 ·
  simp only [fr_]
  rfl
 refine take_ (i := 3) (N := some 6) (v := ?_) (a' := ?_) #[t_,t_,t_,t_,f_,f_,f_] rfl rfl (by kernel_rfl) (fun _ _ _ h => h) (Or.inl ⟨by rfl, ?_⟩) hHeld ?_ ?_
 rotate_left
 ·
  rintro w' ⟨s0, s1⟩
  go_simp
  with_reducible rfl
 rotate_left
 ·
  simp only [fr_]
  rfl
 refine one_ (i := 4) (N := some 7) #[t_,t_,t_,t_,t_,f_,f_] rfl rfl (by kernel_rfl) (by decide) (fun K hK => ?_)
 refine gs_ Try.func100 #[.slice A0_0 l0_0.length c0_0] ?_
 with_reducible refine (spec_l4All.calls k _ _ l0_0 t243 _ ?side1 ?side2 A2.out).mono ?_
 (case side1 => exact cp_ ((Kd.C_below HR0_0.out HB.out)))
 (case side2 => exact HC0_0.out)
 rintro e w6 ⟨v244, rfl, ho0, hb⟩
 refine ⟨_, rfl, ?_⟩
 have HO245 := Aside0.mk (Kd.S_lower ho0 (below_size (hs_ HB.out)))
 replace BK241 := bk2_ BK241 hb
 replace BK242 := bk2_ BK242 hb
 replace HB := st_ HB hb
 (try clear hb)
 (try clear hk)
 (try clear ho0)
 obtain ⟨Ao7, co7, eo7⟩ := Kd.S_slice HO245.out
 (first | subst eo7 | (obtain ⟨rfl, rfl⟩ := si_ eo7))
 refine hK.out _ _ ⟨bx_ BK241.out 0, bx_ BK241.out 1⟩ (fun hHeld => ?_)
 clear hK K
 refine norm_ (a' := ?_) ?_ ?_
 rotate_left
 ·
  show Act.put _ (some 7) _ = _
  simp only [fr_]
  rfl
 refine pure_ (i := 5) (N := some 8) (v := ?_) (a' := ?_) #[t_,t_,t_,t_,t_,t_,f_] rfl rfl (by kernel_rfl) (fun _ _ _ h => h) (Or.inl ⟨by rfl, ?_⟩) ?_ ?_
 rotate_left
 ·
  intro w'
  go_simp
  with_reducible rfl
 rotate_left
 ·
  simp only [fr_]
  rfl
 refine one_ (i := 6) (N := none) #[t_,t_,t_,t_,t_,t_,t_] rfl rfl (by kernel_rfl) (by decide) (fun K hK => ?_)
 have hs8 : w6.cell? ⟨gb242, 0, none⟩ = some (.slice none 0 0) := bx_ BK242.out 0
 have hfs8 := blk_frozen BK242.out 0
 have hns8_0 := NB241_242.out
 have hms8_0 := NB242_241.out
 have hs9 : w6.cell? ⟨gb242, 1, none⟩ = some (.bool false) := bx_ BK242.out 1
 have hfs9 := blk_frozen BK242.out 1
 have hns9_0 := NB241_242.out
 have hms9_0 := NB242_241.out
 refine skip_ (w1 := ?_) (by rfl) rfl ?_ ?_
 rotate_left
 ·
  go_simp
  rfl
 refine hK.out _ _ ⟨(cg_ (hHeld.1)), (cg_ (hHeld.2))⟩ (fun hHeld => ?_)
 clear hK K
 refine done_ (by kernel_rfl) ?_
 try go_wp2
 refine bodyPost_ret (results_cell_row rfl _ _ gb242 39 #[.slice Ao7 t243.length co7, .bool a0_1] (0, 0) _ rfl (bp_ BK242.out) Try.underlying39 rfl (by kernel_rfl)) rfl ?_
 exact ⟨_, by first | rfl | (simp [errW_none, errW_some] <;> rfl) | (simp [*, errW_none, errW_some] <;> rfl), by (with_reducible repeat (first | apply Kd.S_alloc | apply Kd.S_drewN | apply Kd.S_drew)); exact Kd.S_mono (sf_ gb242 (Kd.S_types HO245.out BK242.out (by decide)) (fun _ hk => hk.2)) (fun _ hk => trivial), by exact hs_ HB.out⟩
def spec_Tell.f (k : Nat) (l0_0 : List (S44)) (a0_1 : Bool) (l1_0 : List (S164)) (a1_1 : Int) (a1_2 : Int) (a1_3 : ByteArray) : Option ((List (S44)) × Bool) := (spec_l9Copy.f k l0_0 a0_1).bind fun bt249 => (if a0_1 = true then (some (bt249.1, bt249.2)) else (if (l0_0.length : Int) ≥ 3 then (some (([] : List (S44)), true)) else ((spec_l4Copy.f l1_0 a1_1 a1_2 a1_3).bind fun bt254 => (if bt249.1.length < 2513169434916 then (some ((bt249.1 ++ [(⟨bt254.1, bt254.2.1, bt254.2.2.1, bt254.2.2.2⟩ : S44)]), bt249.2)) else (none)))))
theorem spec_Tell.mono : ∀ a0 a1 a2 a3 a4 a5 k, LeO (spec_Tell.f k a0 a1 a2 a3 a4 a5) (spec_Tell.f (k + 1) a0 a1 a2 a3 a4 a5) := by
 intro a0 a1 a2 a3 a4 a5 k
 unfold spec_Tell.f
 repeat' first | (with_reducible first | exact spec_l9Copy.mono _ _ _ | exact LeO.refl _ | exact LeO.none _ | refine LeO.ite ?_ ?_ | refine LeO.bind ?_ (fun _ => ?_)) | exact spec_l9Copy.mono _ _ _
theorem spec_Tell.calls (k : Nat) (A0_0 : Option Addr) (c0_0 : Nat) (l0_0 : List (S44)) (a0_1 : Bool) (A1_0 : Option Addr) (c1_0 : Nat) (l1_0 : List (S164)) (a1_1 : Int) (a1_2 : Int) (a1_3 : ByteArray) (r1 : List (S44)) (r2 : Bool) (w : World) (hr0_0 : Kd.C k44 w A0_0 l0_0.length l0_0) (hc0_0 : l0_0.length ≤ c0_0) (hr1_0 : Kd.C k164 w A1_0 l1_0.length l1_0) (hc1_0 : l1_0.length ≤ c1_0) (h : spec_Tell.f k l0_0 a0_1 l1_0 a1_1 a1_2 a1_3 = some (r1, r2)) :
  Calls Try.prog 22 #[.agg #[.slice A0_0 l0_0.length c0_0, .bool a0_1], .agg #[.slice A1_0 l1_0.length c1_0, .int .i64 a1_1, .int .i64 a1_2, .string a1_3]] w fun e w' => ∃ v0_ : Value, e = .returned (.agg #[v0_, .bool r2]) ∧ Kd.S k44 44 w' w.heap.size (fun _ => True) v0_ r1 ∧ Below w.heap.size w w' := by
 have hu39 := Try.underlying39
 have hu44 := Try.underlying44
 have HR0_0 := Aside0.mk hr0_0
 have HC0_0 := Aside0.mk hc0_0
 clear hr0_0 hc0_0
 have HR1_0 := Aside0.mk hr1_0
 have HC1_0 := Aside0.mk hc1_0
 clear hr1_0 hc1_0
 have HB := Aside0.mk (Below.refl w.heap.size w)
 have H : ((spec_l9Copy.f k l0_0 a0_1).bind fun bt249 => (if a0_1 = true then (some (bt249.1, bt249.2)) else (if (l0_0.length : Int) ≥ 3 then (some (([] : List (S44)), true)) else ((spec_l4Copy.f l1_0 a1_1 a1_2 a1_3).bind fun bt254 => (if bt249.1.length < 2513169434916 then (some ((bt249.1 ++ [(⟨bt254.1, bt254.2.1, bt254.2.2.1, bt254.2.2.2⟩ : S44)]), bt249.2)) else (none)))))) = some (r1, r2) := h
 clear h
 replace H := Option.bind_eq_some_iff.mp H
 obtain ⟨⟨t249, t252⟩, A30, H⟩ := H
 have A3 := Aside0.mk A30
 clear A30
 by_cases c4 : a0_1 = true
 ·
  subst c4
  rw [if_pos rfl] at H
  simp only [Option.some.injEq, Prod.mk.injEq] at H
  obtain ⟨rfl, rfl⟩ := H
  go_enter Try.func22, Try.ntmps22
  go_wp2_with (first | ((with_reducible refine gd_ 2 rfl ?_); refine bv_ 2 #[.slice A0_0 l0_0.length c0_0, .bool true] 39 ?_; intro gb246 hg w5 hbox hb; have BK246 := Aside0.mk (hbox); have GW246 := Aside0.mk ((gw_ hg (hs_ HB.out))); replace HB := st_ HB hb; have GE246 := Ge_.mk GW246.out; clear hb hbox hg) | ((with_reducible refine gd_ 3 rfl ?_); refine bv_ 3 #[.slice A1_0 l1_0.length c1_0, .int .i64 a1_1, .int .i64 a1_2, .string a1_3] 44 ?_; intro gb247 hg w6 hbox hb; have BK247 := Aside0.mk (hbox); have GW247 := Aside0.mk ((gw_ hg (hs_ HB.out))); replace HB := st_ HB hb; have GE247 := Ge_.mk GW247.out; have NB246_247 := Ne_.mk (nl_ BK246.out hg); replace BK246 := bk2_ BK246 hb; have NB247_246 := Ne_.mk (NB246_247.out.symm); clear hb hbox hg) | ((with_reducible refine gd_ 4 rfl ?_); refine bv_ 4 #[.slice none 0 0, .bool false] 39 ?_; intro gb248 hg w7 hbox hb; have BK248 := Aside0.mk (hbox); have GW248 := Aside0.mk ((gw_ hg (hs_ HB.out))); replace HB := st_ HB hb; have GE248 := Ge_.mk GW248.out; have NB246_248 := Ne_.mk (nl_ BK246.out hg); replace BK246 := bk2_ BK246 hb; have NB248_246 := Ne_.mk (NB246_248.out.symm); have NB247_248 := Ne_.mk (nl_ BK247.out hg); replace BK247 := bk2_ BK247 hb; have NB248_247 := Ne_.mk (NB247_248.out.symm); clear hb hbox hg; have hnb8 := NB246_247.out; have hnc8 := NB247_246.out; have hnb9 := NB246_248.out; have hnc9 := NB248_246.out; obtain ⟨z10_0, z10_1, y10_0, y10_1⟩ := bc2_ BK246.out) | ((with_reducible refine gate_callee (f := 93) rfl ?_); refine gl_ (some 8) Try.func93 #[.agg #[.slice A0_0 l0_0.length c0_0, .bool true]] ?_; (with_reducible refine (spec_l9Copy.calls k _ _ l0_0 true t249 t252 _ ?side1 ?side2 A3.out).mono ?_); (case side1 => exact cp_ ((Kd.C_below HR0_0.out HB.out))); (case side2 => exact HC0_0.out); rintro e w11 ⟨v250, rfl, ho0, hb⟩; refine ⟨_, rfl, ?_⟩; have HO251 := Aside0.mk (Kd.S_lower (Kd.S_newB ho0 (g := gb247) (o := .cells #[.slice A1_0 l1_0.length c1_0, .int .i64 a1_1, .int .i64 a1_2, .string a1_3] 44 (0, 0)) (pb_ BK247.out)) (below_size (hs_ HB.out))); replace BK246 := bk2_ BK246 hb; replace BK247 := bk2_ BK247 hb; replace BK248 := bk2_ BK248 hb; replace HB := st_ HB hb; (try clear hb); (try clear hk); (try clear ho0)) | ((with_reducible refine gd_ 5 rfl ?_); refine bv_ 5 #[.slice none 0 0, .bool false] 39 ?_; intro gb253 hg w12 hbox hb; replace HO251 := Aside0.mk (Kd.S_below (sp_ HO251.out) hb); have BK253 := Aside0.mk (hbox); have GW253 := Aside0.mk ((gw_ hg (hs_ HB.out))); replace HB := st_ HB hb; have GE253 := Ge_.mk GW253.out; have NB246_253 := Ne_.mk (nl_ BK246.out hg); replace BK246 := bk2_ BK246 hb; have NB253_246 := Ne_.mk (NB246_253.out.symm); have NB247_253 := Ne_.mk (nl_ BK247.out hg); replace BK247 := bk2_ BK247 hb; have NB253_247 := Ne_.mk (NB247_253.out.symm); have NB248_253 := Ne_.mk (nl_ BK248.out hg); replace BK248 := bk2_ BK248 hb; have NB253_248 := Ne_.mk (NB248_253.out.symm); clear hb hbox hg; obtain ⟨Ao13, co13, eo13⟩ := Kd.S_slice HO251.out; subst eo13; have hnb14 := NB253_246.out; have hnc14 := NB246_253.out; have hnb15 := NB253_247.out; have hnc15 := NB247_253.out; have hnb16 := NB253_248.out; have hnc16 := NB248_253.out; obtain ⟨z17_0, z17_1, y17_0, y17_1⟩ := bc2_ BK253.out; obtain ⟨z18_0, z18_1, y18_0, y18_1⟩ := bc2_ BK246.out; have hnb19 := NB248_247.out; have hnc19 := NB247_248.out; obtain ⟨z20_0, z20_1, y20_0, y20_1⟩ := bc2_ BK248.out))
  refine bodyPost_ret (results_cell_row rfl _ _ gb248 39 #[.slice Ao13 t249.length co13, .bool t252] (0, 0) _ rfl (bp_ BK248.out) Try.underlying39 rfl (by kernel_rfl)) rfl ?_
  exact ⟨_, by first | rfl | (simp [errW_none, errW_some] <;> rfl) | (simp [*, errW_none, errW_some] <;> rfl), by (with_reducible repeat (first | apply Kd.S_alloc | apply Kd.S_drewN | apply Kd.S_drew)); exact Kd.S_mono (sf_ gb248 (Kd.S_far (p := ⟨gb253, 1, none⟩) (Kd.S_far (p := ⟨gb253, 0, none⟩) (Kd.S_types (Kd.S_types HO251.out BK253.out (by decide)) BK248.out (by decide)) (fun _ hk => hk.1.2) (.slice Ao13 t249.length co13)) (fun _ hk => hk.1.2) (.bool t252)) (fun _ hk => hk.2)) (fun _ hk => trivial), by exact hs_ HB.out⟩
 replace c4 := Bool.eq_false_iff.mpr c4
 subst c4
 rw [if_neg (show ¬ (false = true) by decide)] at H
 by_cases c21 : (l0_0.length : Int) ≥ 3
 ·
  rw [if_pos c21] at H
  have c21b0 : decide (3 ≤ (l0_0.length : Int)) = true := decide_eq_true c21
  have c21b1 : decide (3 ≤ l0_0.length) = true := decide_eq_true (by omega)
  clear c21
  simp only [Option.some.injEq, Prod.mk.injEq] at H
  obtain ⟨rfl, rfl⟩ := H
  go_enter Try.func22, Try.ntmps22
  go_wp2_with (first | ((with_reducible refine gd_ 2 rfl ?_); refine bv_ 2 #[.slice A0_0 l0_0.length c0_0, .bool false] 39 ?_; intro gb246 hg w22 hbox hb; have BK246 := Aside0.mk (hbox); have GW246 := Aside0.mk ((gw_ hg (hs_ HB.out))); replace HB := st_ HB hb; have GE246 := Ge_.mk GW246.out; clear hb hbox hg) | ((with_reducible refine gd_ 3 rfl ?_); refine bv_ 3 #[.slice A1_0 l1_0.length c1_0, .int .i64 a1_1, .int .i64 a1_2, .string a1_3] 44 ?_; intro gb247 hg w23 hbox hb; have BK247 := Aside0.mk (hbox); have GW247 := Aside0.mk ((gw_ hg (hs_ HB.out))); replace HB := st_ HB hb; have GE247 := Ge_.mk GW247.out; have NB246_247 := Ne_.mk (nl_ BK246.out hg); replace BK246 := bk2_ BK246 hb; have NB247_246 := Ne_.mk (NB246_247.out.symm); clear hb hbox hg) | ((with_reducible refine gd_ 4 rfl ?_); refine bv_ 4 #[.slice none 0 0, .bool false] 39 ?_; intro gb248 hg w24 hbox hb; have BK248 := Aside0.mk (hbox); have GW248 := Aside0.mk ((gw_ hg (hs_ HB.out))); replace HB := st_ HB hb; have GE248 := Ge_.mk GW248.out; have NB246_248 := Ne_.mk (nl_ BK246.out hg); replace BK246 := bk2_ BK246 hb; have NB248_246 := Ne_.mk (NB246_248.out.symm); have NB247_248 := Ne_.mk (nl_ BK247.out hg); replace BK247 := bk2_ BK247 hb; have NB248_247 := Ne_.mk (NB247_248.out.symm); clear hb hbox hg; have hnb25 := NB246_247.out; have hnc25 := NB247_246.out; have hnb26 := NB246_248.out; have hnc26 := NB248_246.out; obtain ⟨z27_0, z27_1, y27_0, y27_1⟩ := bc2_ BK246.out) | ((with_reducible refine gate_callee (f := 93) rfl ?_); refine gl_ (some 8) Try.func93 #[.agg #[.slice A0_0 l0_0.length c0_0, .bool false]] ?_; (with_reducible refine (spec_l9Copy.calls k _ _ l0_0 false t249 t252 _ ?side1 ?side2 A3.out).mono ?_); (case side1 => exact cp_ ((Kd.C_below HR0_0.out HB.out))); (case side2 => exact HC0_0.out); rintro e w28 ⟨v250, rfl, ho0, hb⟩; refine ⟨_, rfl, ?_⟩; have HO251 := Aside0.mk (Kd.S_lower (Kd.S_newB ho0 (g := gb247) (o := .cells #[.slice A1_0 l1_0.length c1_0, .int .i64 a1_1, .int .i64 a1_2, .string a1_3] 44 (0, 0)) (pb_ BK247.out)) (below_size (hs_ HB.out))); replace BK246 := bk2_ BK246 hb; replace BK247 := bk2_ BK247 hb; replace BK248 := bk2_ BK248 hb; replace HB := st_ HB hb; (try clear hb); (try clear hk); (try clear ho0)) | ((with_reducible refine gd_ 5 rfl ?_); refine bv_ 5 #[.slice none 0 0, .bool false] 39 ?_; intro gb253 hg w29 hbox hb; replace HO251 := Aside0.mk (Kd.S_below (sp_ HO251.out) hb); have BK253 := Aside0.mk (hbox); have GW253 := Aside0.mk ((gw_ hg (hs_ HB.out))); replace HB := st_ HB hb; have GE253 := Ge_.mk GW253.out; have NB246_253 := Ne_.mk (nl_ BK246.out hg); replace BK246 := bk2_ BK246 hb; have NB253_246 := Ne_.mk (NB246_253.out.symm); have NB247_253 := Ne_.mk (nl_ BK247.out hg); replace BK247 := bk2_ BK247 hb; have NB253_247 := Ne_.mk (NB247_253.out.symm); have NB248_253 := Ne_.mk (nl_ BK248.out hg); replace BK248 := bk2_ BK248 hb; have NB253_248 := Ne_.mk (NB248_253.out.symm); clear hb hbox hg; obtain ⟨Ao30, co30, eo30⟩ := Kd.S_slice HO251.out; subst eo30; have hnb31 := NB253_246.out; have hnc31 := NB246_253.out; have hnb32 := NB253_247.out; have hnc32 := NB247_253.out; have hnb33 := NB253_248.out; have hnc33 := NB248_253.out; obtain ⟨z34_0, z34_1, y34_0, y34_1⟩ := bc2_ BK253.out; obtain ⟨z35_0, z35_1, y35_0, y35_1⟩ := bc2_ BK246.out; have hnb36 := NB248_247.out; have hnc36 := NB247_248.out; obtain ⟨z37_0, z37_1, y37_0, y37_1⟩ := bc2_ BK248.out))
  refine bodyPost_ret (results_cell_row rfl _ _ gb248 39 #[.slice none 0 0, .bool true] (0, 0) _ rfl (bp_ BK248.out) Try.underlying39 rfl (by kernel_rfl)) rfl ?_
  exact ⟨_, by first | rfl | (simp [errW_none, errW_some] <;> rfl) | (simp [*, errW_none, errW_some] <;> rfl), by first | exact Kd.S_nil _ _ _ _ _ | exact Kd.N_nil _ _ _ _ _ | exact Kd.V_nil _ _ _ _ _ | exact Kd.Q_nil _ _ _ _ _ | exact Kd.R_nil _ _ _ _ _, by exact hs_ HB.out⟩
 rw [if_neg c21] at H
 have c21b0 : decide (3 ≤ (l0_0.length : Int)) = false := decide_eq_false c21
 have c21b1 : decide (3 ≤ l0_0.length) = false := decide_eq_false (by omega)
 clear c21
 replace H := Option.bind_eq_some_iff.mp H
 obtain ⟨⟨t254, t257, t258, t259⟩, A380, H⟩ := H
 have A38 := Aside0.mk A380
 clear A380
 by_cases c39 : t249.length < 2513169434916
 ·
  rw [if_pos c39] at H
  have LMc39 := Aside0.mk c39
  clear c39
  obtain ⟨y261, hy261⟩ : ∃ y_ : List (S44), y_ = (t249 ++ [(⟨t254, t257, t258, t259⟩ : S44)]) := ⟨_, rfl⟩
  replace H : (some (y261, t252)) = some (r1, r2) := by first | (rw [hy261]; with_reducible exact H) | (have H2_ := (Option.bind_some _ _).symm.trans H; rw [hy261]; with_reducible exact H2_) | (have H2_ := (Option.bind_some _ _).symm.trans H; with_reducible exact H2_) | with_reducible exact H | (rw [hy261]; exact H) | exact H
  have Ny261 := Aside0.mk hy261
  clear hy261
  simp only [Option.some.injEq, Prod.mk.injEq] at H
  obtain ⟨rfl, rfl⟩ := H
  go_enter Try.func22, Try.ntmps22
  go_wp2_with (first | ((with_reducible refine gd_ 2 rfl ?_); refine bv_ 2 #[.slice A0_0 l0_0.length c0_0, .bool false] 39 ?_; intro gb246 hg w40 hbox hb; have BK246 := Aside0.mk (hbox); have GW246 := Aside0.mk ((gw_ hg (hs_ HB.out))); replace HB := st_ HB hb; have GE246 := Ge_.mk GW246.out; clear hb hbox hg) | ((with_reducible refine gd_ 3 rfl ?_); refine bv_ 3 #[.slice A1_0 l1_0.length c1_0, .int .i64 a1_1, .int .i64 a1_2, .string a1_3] 44 ?_; intro gb247 hg w41 hbox hb; have BK247 := Aside0.mk (hbox); have GW247 := Aside0.mk ((gw_ hg (hs_ HB.out))); replace HB := st_ HB hb; have GE247 := Ge_.mk GW247.out; have NB246_247 := Ne_.mk (nl_ BK246.out hg); replace BK246 := bk2_ BK246 hb; have NB247_246 := Ne_.mk (NB246_247.out.symm); clear hb hbox hg) | ((with_reducible refine gd_ 4 rfl ?_); refine bv_ 4 #[.slice none 0 0, .bool false] 39 ?_; intro gb248 hg w42 hbox hb; have BK248 := Aside0.mk (hbox); have GW248 := Aside0.mk ((gw_ hg (hs_ HB.out))); replace HB := st_ HB hb; have GE248 := Ge_.mk GW248.out; have NB246_248 := Ne_.mk (nl_ BK246.out hg); replace BK246 := bk2_ BK246 hb; have NB248_246 := Ne_.mk (NB246_248.out.symm); have NB247_248 := Ne_.mk (nl_ BK247.out hg); replace BK247 := bk2_ BK247 hb; have NB248_247 := Ne_.mk (NB247_248.out.symm); clear hb hbox hg; have hnb43 := NB246_247.out; have hnc43 := NB247_246.out; have hnb44 := NB246_248.out; have hnc44 := NB248_246.out; obtain ⟨z45_0, z45_1, y45_0, y45_1⟩ := bc2_ BK246.out) | ((with_reducible refine gate_callee (f := 93) rfl ?_); refine gl_ (some 8) Try.func93 #[.agg #[.slice A0_0 l0_0.length c0_0, .bool false]] ?_; (with_reducible refine (spec_l9Copy.calls k _ _ l0_0 false t249 t252 _ ?side1 ?side2 A3.out).mono ?_); (case side1 => exact cp_ ((Kd.C_below HR0_0.out HB.out))); (case side2 => exact HC0_0.out); rintro e w46 ⟨v250, rfl, ho0, hb⟩; refine ⟨_, rfl, ?_⟩; have HO251 := Aside0.mk (Kd.S_lower (Kd.S_newB ho0 (g := gb247) (o := .cells #[.slice A1_0 l1_0.length c1_0, .int .i64 a1_1, .int .i64 a1_2, .string a1_3] 44 (0, 0)) (pb_ BK247.out)) (below_size (hs_ HB.out))); replace BK246 := bk2_ BK246 hb; replace BK247 := bk2_ BK247 hb; replace BK248 := bk2_ BK248 hb; replace HB := st_ HB hb; (try clear hb); (try clear hk); (try clear ho0)) | ((with_reducible refine gd_ 5 rfl ?_); refine bv_ 5 #[.slice none 0 0, .bool false] 39 ?_; intro gb253 hg w47 hbox hb; replace HO251 := Aside0.mk (Kd.S_below (sp_ HO251.out) hb); have BK253 := Aside0.mk (hbox); have GW253 := Aside0.mk ((gw_ hg (hs_ HB.out))); replace HB := st_ HB hb; have GE253 := Ge_.mk GW253.out; have NB246_253 := Ne_.mk (nl_ BK246.out hg); replace BK246 := bk2_ BK246 hb; have NB253_246 := Ne_.mk (NB246_253.out.symm); have NB247_253 := Ne_.mk (nl_ BK247.out hg); replace BK247 := bk2_ BK247 hb; have NB253_247 := Ne_.mk (NB247_253.out.symm); have NB248_253 := Ne_.mk (nl_ BK248.out hg); replace BK248 := bk2_ BK248 hb; have NB253_248 := Ne_.mk (NB248_253.out.symm); clear hb hbox hg; obtain ⟨Ao48, co48, eo48⟩ := Kd.S_slice HO251.out; subst eo48; have hnb49 := NB253_246.out; have hnc49 := NB246_253.out; have hnb50 := NB253_247.out; have hnc50 := NB247_253.out; have hnb51 := NB253_248.out; have hnc51 := NB248_253.out; obtain ⟨z52_0, z52_1, y52_0, y52_1⟩ := bc2_ BK253.out; obtain ⟨z53_0, z53_1, y53_0, y53_1⟩ := bc2_ BK246.out; have hnb54 := NB247_248.out; have hnc54 := NB248_247.out; obtain ⟨z55_0, z55_1, z55_2, z55_3, y55_0, y55_1, y55_2, y55_3⟩ := bc4_ BK247.out) | ((with_reducible refine gate_callee (f := 94) rfl ?_); refine gl_ (some 18) Try.func94 #[.agg #[.slice A1_0 l1_0.length c1_0, .int .i64 a1_1, .int .i64 a1_2, .string a1_3]] ?_; (with_reducible refine (spec_l4Copy.calls _ _ l1_0 a1_1 a1_2 a1_3 t254 t257 t258 t259 _ ?side1 ?side2 A38.out).mono ?_); (case side1 => exact Kd.C_below HR1_0.out (hs_ HB.out)); (case side2 => exact HC1_0.out); rintro e w56 ⟨v255, rfl, ho0, hb⟩; refine ⟨_, rfl, ?_⟩; replace HO251 := Aside0.mk (Kd.S_elder' (by (with_reducible repeat (first | apply Kd.S_alloc | apply Kd.S_drewN | apply Kd.S_drew)); exact (Kd.S_mono (sf_ gb253 (Kd.S_types HO251.out BK253.out (by decide)) (fun _ hk => hk.2)) (fun _ h_ => h_.1))) (Kd.R_base ho0) hb); have HO256 := Aside0.mk (Kd.R_lower ho0 (below_size (hs_ HB.out))); replace BK246 := bk2_ BK246 hb; replace BK247 := bk2_ BK247 hb; replace BK248 := bk2_ BK248 hb; replace BK253 := Aside0.mk (blk_below (g := gb253) (o := .cells #[.slice Ao48 t249.length co48, .bool t252] 39 (0, 0)) (bp_ BK253.out) hb); replace HB := st_ HB hb; (try clear hb); (try clear hk); (try clear ho0)) | ((with_reducible refine gd_ 6 rfl ?_); refine bv_ 6 #[.slice none 0 0, .int .i64 0, .int .i64 0, .string (⟨#[]⟩ : ByteArray)] 44 ?_; intro gb260 hg w57 hbox hb; replace HO251 := Aside0.mk (Kd.S_below (Kd.S_elderB (sp_ HO251.out) gb260 (Nat.le_of_eq hg.symm)) hb); replace HO256 := Aside0.mk (Kd.R_below (rp_ HO256.out) hb); have BK260 := Aside0.mk (hbox); have GW260 := Aside0.mk ((gw_ hg (hs_ HB.out))); replace HB := st_ HB hb; have GE260 := Ge_.mk GW260.out; have NB246_260 := Ne_.mk (nl_ BK246.out hg); replace BK246 := bk2_ BK246 hb; have NB260_246 := Ne_.mk (NB246_260.out.symm); have NB247_260 := Ne_.mk (nl_ BK247.out hg); replace BK247 := bk2_ BK247 hb; have NB260_247 := Ne_.mk (NB247_260.out.symm); have NB248_260 := Ne_.mk (nl_ BK248.out hg); replace BK248 := bk2_ BK248 hb; have NB260_248 := Ne_.mk (NB248_260.out.symm); have NB253_260 := Ne_.mk (nl_ BK253.out hg); replace BK253 := bk2_ BK253 hb; have NB260_253 := Ne_.mk (NB253_260.out.symm); clear hb hbox hg; obtain ⟨Ao58, co58, eo58⟩ := Kd.R_slice HO256.out; subst eo58; have hnb59 := NB260_246.out; have hnc59 := NB246_260.out; have hnb60 := NB260_247.out; have hnc60 := NB247_260.out; have hnb61 := NB260_248.out; have hnc61 := NB248_260.out; have hnb62 := NB260_253.out; have hnc62 := NB253_260.out; obtain ⟨z63_0, z63_1, z63_2, z63_3, y63_0, y63_1, y63_2, y63_3⟩ := bc4_ BK260.out) | ((with_reducible refine gate_store (t := 44) (p := 6) rfl ?_); refine store_event (t := 44) (p := 6) (v := ?vo_w64) (w1 := ((((w57.setCell ⟨gb260, 0, none⟩ (.slice Ao58 t254.length co58)).setCell ⟨gb260, 1, none⟩ (.int .i64 t257)).setCell ⟨gb260, 2, none⟩ (.int .i64 t258)).setCell ⟨gb260, 3, none⟩ (.string t259))) ?hg ?ho ?hn ?hr ?_; (case ho => rfl); (case hg => rfl); (case hn => rfl); (case hr => first | (go_simp; done) | (go_simp; rfl)); intro w64 hw; replace HO251 : Aside0 (Kd.S k44 44 w64 w.heap.size (fun k_ => some k_ ≠ (.slice Ao58 t254.length co58 : Value).ownBlock ∧ k_ ≠ gb247 ∧ k_ ≠ gb260) (.slice Ao48 t249.length co48) t249) := ⟨(by rw [hw]; exact (Kd.S_mono (sf_ gb260 (Kd.S_mono HO251.out (fun k_ hk => (⟨hk, hk.2⟩ : _ ∧ k_ ≠ gb260))) (fun _ hk => hk.2)) (fun _ hk => ⟨hk.1.1.2, ⟨hk.1.1.1.2, hk.1.2⟩⟩)))⟩; replace HO256 : Aside0 (Kd.R k164 164 w64 w.heap.size (fun _ => True) (.slice Ao58 t254.length co58) t254) := ⟨(by rw [hw]; exact (Kd.R_mono (rf_ gb260 (Kd.R_types HO256.out BK260.out (by decide)) (fun _ hk => hk.2)) (fun _ hk => trivial)))⟩; replace BK246 : Aside0 (w64.heap[gb246]? = some (.cells #[.slice A0_0 l0_0.length c0_0, .bool false] 39 (0, 0))) := ⟨(by rw [hw]; exact (bq_ BK246.out))⟩; replace BK247 : Aside0 (w64.heap[gb247]? = some (.cells #[.slice A1_0 l1_0.length c1_0, .int .i64 a1_1, .int .i64 a1_2, .string a1_3] 44 (0, 0))) := ⟨(by rw [hw]; exact (bq_ BK247.out))⟩; replace BK248 : Aside0 (w64.heap[gb248]? = some (.cells #[.slice none 0 0, .bool false] 39 (0, 0))) := ⟨(by rw [hw]; exact (bq_ BK248.out))⟩; replace BK253 : Aside0 (w64.heap[gb253]? = some (.cells #[.slice Ao48 t249.length co48, .bool t252] 39 (0, 0))) := ⟨(by rw [hw]; exact (bq_ BK253.out))⟩; replace BK260 : Aside0 (w64.heap[gb260]? = some (.cells #[.slice Ao58 t254.length co58, .int .i64 t257, .int .i64 t258, .string t259] 44 (0, 0))) := ⟨(by rw [hw]; exact (bp_ BK260.out))⟩; replace HB : Aside0 (Below w.heap.size w w64) := ⟨(by rw [hw]; exact (hs_ HB.out))⟩; clear hw; obtain ⟨z65_0, z65_1, y65_0, y65_1⟩ := bc2_ BK253.out; obtain ⟨z66_0, z66_1, z66_2, z66_3, y66_0, y66_1, y66_2, y66_3⟩ := bc4_ BK260.out) | ((with_reducible refine gate_builtin (b := .append) (xs := #[.tmp 20, .tmp 22]) rfl ?_); at_builtin; refine Kd.S_append k44 (w0 := w) w.heap.size rfl (.tmp 20) (.tmp 22) 37 44 (.agg #[(.slice none 0 0), (.int .i64 0), (.int .i64 0), (.string ⟨#[]⟩)]) 56 rfl Try.underlying37 info44 rfl (by decide) (by omega) (.slice Ao48 t249.length co48) t249 (⟨t254, t257, t258, t259⟩ : S44) [.slice Ao58 t254.length co58, .int .i64 t257, .int .i64 t258, .string t259] (fun k_ => k_ ≠ gb247 ∧ k_ ≠ gb260) (fun k_ => some k_ = (.slice Ao58 t254.length co58 : Value).ownBlock) rfl rfl ?aP (fun k_ hk_ => ((Kd.R_mono (ok' := fun k_ => ((fun k_ => k_ ≠ gb247 ∧ k_ ≠ gb260)) k_ ∧ some k_ ≠ (.slice Ao48 t249.length co48 : Value).ownBlock) (Kd.R_types (Kd.R_types (Kd.R_apart' (HO256.out) (Kd.S_typed HO251.out) (by decide)) BK247.out (by decide)) BK260.out (by decide)) (fun k_ hk => ⟨⟨hk.1.2, hk.2⟩, hk.1.1.2⟩))).1 k_ hk_.symm) ?aF ?aO ?aB ?aS ?aL ?_; (case aP => exact k44_mkM _ _ _ (⟨t254, t257, t258, t259⟩ : S44) (Kd.R_mono (Kd.R_tight rfl (Kd.R_mono (ok' := fun k_ => ((fun k_ => k_ ≠ gb247 ∧ k_ ≠ gb260)) k_ ∧ some k_ ≠ (.slice Ao48 t249.length co48 : Value).ownBlock) (Kd.R_types (Kd.R_types (Kd.R_apart' (HO256.out) (Kd.S_typed HO251.out) (by decide)) BK247.out (by decide)) BK260.out (by decide)) (fun k_ hk => ⟨⟨hk.1.2, hk.2⟩, hk.1.1.2⟩))) (fun _ h_ => h_))); (case aB => exact (hs_ HB.out)); (case aF => exact (fun k_ hk => ⟨Kd.freshB (g := gb247) (o := .cells #[.slice A1_0 l1_0.length c1_0, .int .i64 a1_1, .int .i64 a1_2, .string a1_3] 44 (0, 0)) (pb_ BK247.out) k_ hk, Kd.freshB (g := gb260) (o := .cells #[.slice Ao58 t254.length co58, .int .i64 t257, .int .i64 t258, .string t259] 44 (0, 0)) (pb_ BK260.out) k_ hk⟩)); (case aO => exact (Kd.S_mono (sp_ HO251.out) (fun k_ hk => ⟨⟨hk.2.1, hk.2.2⟩, fun e_ => hk.1 e_⟩))); (case aS => exact (below_size (hs_ HB.out))); (case aL => have := LMc39.out; omega); intro v262 w67 ho hb hg hat; rw [← Ny261.out] at ho; replace BK246 := Aside0.mk (blk_grown (bq_ BK246.out) hg (Kd.S_ne HO251.out BK246.out (by decide))); replace BK247 := Aside0.mk (blk_grown (bq_ BK247.out) hg (Kd.S_away HO251.out (fun _ hk => hk.2.1))); replace BK248 := Aside0.mk (blk_grown (bq_ BK248.out) hg (Kd.S_ne HO251.out BK248.out (by decide))); replace BK253 := Aside0.mk (blk_grown (bq_ BK253.out) hg (Kd.S_ne HO251.out BK253.out (by decide))); replace BK260 := Aside0.mk (blk_grown (bq_ BK260.out) hg (Kd.S_away HO251.out (fun _ hk => hk.2.2))); replace HB := Aside0.mk (hb); have HO263 := Aside0.mk (ho); clear HO251 HO256; clear ho hb hg hat; obtain ⟨Ao68, co68, eo68⟩ := Kd.S_slice HO263.out; subst eo68; obtain ⟨z69_0, z69_1, y69_0, y69_1⟩ := bc2_ BK253.out; obtain ⟨z70_0, z70_1, y70_0, y70_1⟩ := bc2_ BK248.out))
  refine bodyPost_ret (results_cell_row rfl _ _ gb248 39 #[.slice Ao68 y261.length co68, .bool t252] (0, 0) _ rfl (bp_ BK248.out) Try.underlying39 rfl (by kernel_rfl)) rfl ?_
  exact ⟨_, by first | rfl | (simp [errW_none, errW_some] <;> rfl) | (simp [*, errW_none, errW_some] <;> rfl), by (with_reducible repeat (first | apply Kd.S_alloc | apply Kd.S_drewN | apply Kd.S_drew)); exact Kd.S_mono (sf_ gb248 (Kd.S_far (p := ⟨gb253, 0, none⟩) (Kd.S_types (Kd.S_types HO263.out BK253.out (by decide)) BK248.out (by decide)) (fun _ hk => hk.1.2) (.slice Ao68 y261.length co68)) (fun _ hk => hk.2)) (fun _ hk => trivial), by exact hs_ HB.out⟩
 rw [if_neg c39] at H
 exact absurd H (by simp)
def impl_copySet.f (l0 : List (S164)) : Option ((List (S164))) := if ([] : List (S164)).length + l0.length < 4398046511104 then (some (([] : List (S164)) ++ l0)) else (none)
theorem impl_copySet.calls (A0 : Option Addr) (c0 : Nat) (l0 : List (S164)) (r : List (S164)) (w : World) (hr0 : Kd.C k164 w A0 l0.length l0) (hc0 : l0.length ≤ c0) (h : impl_copySet.f l0 = some r) :
  Calls Try.prog 146 #[.slice A0 l0.length c0] w fun e w' => ∃ v0_ : Value, e = .returned (v0_) ∧ Kd.R k164 164 w' w.heap.size (fun _ => True) v0_ r ∧ Below w.heap.size w w' := by
 have HR0 := Aside0.mk hr0
 have HC0 := Aside0.mk hc0
 clear hr0 hc0
 have HB := Aside0.mk (Below.refl w.heap.size w)
 have H : (if ([] : List (S164)).length + l0.length < 4398046511104 then (some (([] : List (S164)) ++ l0)) else (none)) = some r := h
 clear h
 by_cases c2 : ([] : List (S164)).length + l0.length < 4398046511104
 ·
  rw [if_pos c2] at H
  have LMc2 := Aside0.mk c2
  clear c2
  obtain ⟨y270, hy270⟩ : ∃ y_ : List (S164), y_ = (([] : List (S164)) ++ l0) := ⟨_, rfl⟩
  replace H : (some y270) = some r := by first | (rw [hy270]; with_reducible exact H) | (have H2_ := (Option.bind_some _ _).symm.trans H; rw [hy270]; with_reducible exact H2_) | (have H2_ := (Option.bind_some _ _).symm.trans H; with_reducible exact H2_) | with_reducible exact H | (rw [hy270]; exact H) | exact H
  have Ny270 := Aside0.mk hy270
  clear hy270
  obtain rfl := Option.some.inj H
  go_enter Try.func146, Try.ntmps146
  go_wp2_with (first | ((with_reducible refine gate_builtin (b := .append) (xs := #[.const (.slice none 0 0), .tmp 3]) rfl ?_); at_builtin; refine Kd.R_append_rows k164 (w0 := w) w.heap.size rfl (.const (.slice none 0 0)) (.tmp 3) 42 164 (.agg #[(.string ⟨#[]⟩), (.string ⟨#[]⟩)]) 32 rfl Try.underlying42 info164 rfl (by decide) (by omega) (.slice none 0 0) ([] : List (S164)) l0 _ _ _ (fun _ => True) (fun _ => False) rfl rfl ?aO ?aR (fun _ _ h => h) (fun _ h => h.elim) ?aF ?aB ?aS ?aL ?_; (case aR => repeat (first | exact HR0.out | (with_reducible first | refine ca_ ?_ _ | refine cn_ ?_ _ | refine cd_ ?_))); (case aB => exact (hs_ HB.out)); (case aF => exact (fun _ _ => trivial)); (case aO => exact ((Kd.R_nil _ _ _ _ (fun _ => True)))); (case aS => exact (below_size (hs_ HB.out))); (case aL => have := LMc2.out; omega); intro v271 w3 ho hb hg hat; rw [← Ny270.out] at ho; replace HB := Aside0.mk (hb); have HO272 := Aside0.mk (ho); clear ho hb hg hat))
  go_ret
  exact ⟨_, by first | rfl | (simp [errW_none, errW_some] <;> rfl) | (simp [*, errW_none, errW_some] <;> rfl), by (with_reducible repeat (first | apply Kd.R_alloc | apply Kd.R_drewN | apply Kd.R_drew)); exact HO272.out, by exact hs_ HB.out⟩
 rw [if_neg c2] at H
 exact absurd H (by simp)
def impl_copyAlarm.f (l0_0 : List (S164)) (a0_1 : Int) (a0_2 : Int) (a0_3 : ByteArray) : Option ((List (S164)) × Int × Int × ByteArray) := (impl_copySet.f l0_0).bind fun t275 => (some (t275, a0_1, a0_2, a0_3))
theorem impl_copyAlarm.calls (A0_0 : Option Addr) (c0_0 : Nat) (l0_0 : List (S164)) (a0_1 : Int) (a0_2 : Int) (a0_3 : ByteArray) (r1 : List (S164)) (r2 : Int) (r3 : Int) (r4 : ByteArray) (w : World) (hr0_0 : Kd.C k164 w A0_0 l0_0.length l0_0) (hc0_0 : l0_0.length ≤ c0_0) (h : impl_copyAlarm.f l0_0 a0_1 a0_2 a0_3 = some (r1, r2, r3, r4)) :
  Calls Try.prog 97 #[.agg #[.slice A0_0 l0_0.length c0_0, .int .i64 a0_1, .int .i64 a0_2, .string a0_3]] w fun e w' => ∃ v0_ : Value, e = .returned (.agg #[v0_, .int .i64 r2, .int .i64 r3, .string r4]) ∧ Kd.R k164 164 w' w.heap.size (fun _ => True) v0_ r1 ∧ Below w.heap.size w w' := by
 have hu44 := Try.underlying44
 have HR0_0 := Aside0.mk hr0_0
 have HC0_0 := Aside0.mk hc0_0
 clear hr0_0 hc0_0
 have HB := Aside0.mk (Below.refl w.heap.size w)
 have H : ((impl_copySet.f l0_0).bind fun t275 => (some (t275, a0_1, a0_2, a0_3))) = some (r1, r2, r3, r4) := h
 clear h
 replace H := Option.bind_eq_some_iff.mp H
 obtain ⟨t275, A20, H⟩ := H
 have A2 := Aside0.mk A20
 clear A20
 simp only [Option.some.injEq, Prod.mk.injEq] at H
 obtain ⟨rfl, rfl, rfl, rfl⟩ := H
 go_enter Try.func97, Try.ntmps97
 go_wp2_with (first | ((with_reducible refine gd_ 1 rfl ?_); refine bv_ 1 #[.slice A0_0 l0_0.length c0_0, .int .i64 a0_1, .int .i64 a0_2, .string a0_3] 44 ?_; intro gb273 hg w3 hbox hb; have BK273 := Aside0.mk (hbox); have GW273 := Aside0.mk ((gw_ hg (hs_ HB.out))); replace HB := st_ HB hb; have GE273 := Ge_.mk GW273.out; clear hb hbox hg) | ((with_reducible refine gd_ 2 rfl ?_); refine bv_ 2 #[.slice none 0 0, .int .i64 0, .int .i64 0, .string (⟨#[]⟩ : ByteArray)] 44 ?_; intro gb274 hg w4 hbox hb; have BK274 := Aside0.mk (hbox); have GW274 := Aside0.mk ((gw_ hg (hs_ HB.out))); replace HB := st_ HB hb; have GE274 := Ge_.mk GW274.out; have NB273_274 := Ne_.mk (nl_ BK273.out hg); replace BK273 := bk2_ BK273 hb; have NB274_273 := Ne_.mk (NB273_274.out.symm); clear hb hbox hg; have hnb5 := NB273_274.out; have hnc5 := NB274_273.out; obtain ⟨z6_0, z6_1, z6_2, z6_3, y6_0, y6_1, y6_2, y6_3⟩ := bc4_ BK273.out) | ((with_reducible refine gate_callee (f := 146) rfl ?_); refine gl_ (some 5) Try.func146 #[.slice A0_0 l0_0.length c0_0] ?_; (with_reducible refine (impl_copySet.calls _ _ l0_0 t275 _ ?side1 ?side2 A2.out).mono ?_); (case side1 => exact cp_ ((Kd.C_below HR0_0.out HB.out))); (case side2 => exact HC0_0.out); rintro e w7 ⟨v276, rfl, ho0, hb⟩; refine ⟨_, rfl, ?_⟩; have HO277 := Aside0.mk (Kd.R_lower ho0 (below_size (hs_ HB.out))); replace BK273 := bk2_ BK273 hb; replace BK274 := bk2_ BK274 hb; replace HB := st_ HB hb; (try clear hb); (try clear hk); (try clear ho0); obtain ⟨Ao8, co8, eo8⟩ := Kd.R_slice HO277.out; subst eo8; obtain ⟨z9_0, z9_1, z9_2, z9_3, y9_0, y9_1, y9_2, y9_3⟩ := bc4_ BK273.out; obtain ⟨z10_0, z10_1, z10_2, z10_3, y10_0, y10_1, y10_2, y10_3⟩ := bc4_ BK274.out))
 refine bodyPost_ret (results_cell_row rfl _ _ gb274 44 #[.slice Ao8 t275.length co8, .int .i64 a0_1, .int .i64 a0_2, .string a0_3] (0, 0) _ rfl (bp_ BK274.out) Try.underlying44 rfl (by kernel_rfl)) rfl ?_
 exact ⟨_, by first | rfl | (simp [errW_none, errW_some] <;> rfl) | (simp [*, errW_none, errW_some] <;> rfl), by (with_reducible repeat (first | apply Kd.R_alloc | apply Kd.R_drewN | apply Kd.R_drew)); exact Kd.R_mono (rf_ gb274 (Kd.R_far (p := ⟨gb273, 0, none⟩) (Kd.R_types (Kd.R_types HO277.out BK273.out (by decide)) BK274.out (by decide)) (fun _ hk => hk.1.2) (.slice Ao8 t275.length co8)) (fun _ hk => hk.2)) (fun _ hk => trivial), by exact hs_ HB.out⟩
def impl_copyAlarms.l0 : Nat → List (S44) → List (S44) → Int → Int → Option ((List (S44)))
 | 0, _, _, _, _ => none
 | k + 1, x3, x6, x7, x8 => if x8 < x7 then (if 0 ≤ x8 then (if x8 < (x6.length : Int) then ((impl_copyAlarm.f ((rd_T44 x6 x8).f0) ((rd_T44 x6 x8).f1) ((rd_T44 x6 x8).f2) ((rd_T44 x6 x8).f3)).bind fun bt280 => (if x3.length < 2513169434916 then (impl_copyAlarms.l0 k (x3 ++ [(⟨bt280.1, bt280.2.1, bt280.2.2.1, bt280.2.2.2⟩ : S44)]) x6 x7 (wrap64 (x8 + 1))) else (none))) else (none)) else (none)) else (some x3)
def impl_copyAlarms.f (k : Nat) (l0 : List (S44)) : Option ((List (S44))) := impl_copyAlarms.l0 k ([] : List (S44)) l0 (l0.length : Int) 0
theorem impl_copyAlarms.mono_l : ∀ k, (∀ y0 y1 y2 y3, LeO (impl_copyAlarms.l0 k y0 y1 y2 y3) (impl_copyAlarms.l0 (k + 1) y0 y1 y2 y3))
 | 0 => fun _ _ _ _ r h => by simp [impl_copyAlarms.l0] at h
 | k + 1 => by
  have ih0 := impl_copyAlarms.mono_l k
  intro y0 y1 y2 y3
  unfold impl_copyAlarms.l0
  repeat' first
  | (with_reducible exact ih0 _ _ _ _)
  | (with_reducible exact LeO.refl _)
  | (with_reducible exact LeO.none _)
  | (with_reducible refine LeO.ite ?_ ?_)
  | (with_reducible refine LeO.bind ?_ (fun _ => ?_))
  | exact ih0 _ _ _ _
theorem impl_copyAlarms.mono : ∀ a0 k, LeO (impl_copyAlarms.f k a0) (impl_copyAlarms.f (k + 1) a0) := by
 intro a0 k
 have ih0 := impl_copyAlarms.mono_l k
 unfold impl_copyAlarms.f
 repeat' first | (with_reducible first | exact ih0 _ _ _ _ | exact LeO.refl _ | exact LeO.none _ | refine LeO.ite ?_ ?_ | refine LeO.bind ?_ (fun _ => ?_)) | exact ih0 _ _ _ _
theorem impl_copyAlarms.calls (k : Nat) (A0 : Option Addr) (c0 : Nat) (l0 : List (S44)) (r : List (S44)) (w : World) (hr0 : Kd.C k44 w A0 l0.length l0) (hc0 : l0.length ≤ c0) (h : impl_copyAlarms.f k l0 = some r) :
  Calls Try.prog 101 #[.slice A0 l0.length c0] w fun e w' => ∃ v0_ : Value, e = .returned (v0_) ∧ Kd.S k44 44 w' w.heap.size (fun _ => True) v0_ r ∧ Below w.heap.size w w' := by
 have hu44 := Try.underlying44
 have HR0 := Aside0.mk hr0
 have HC0 := Aside0.mk hc0
 clear hr0 hc0
 have HB := Aside0.mk (Below.refl w.heap.size w)
 have H : (impl_copyAlarms.l0 k ([] : List (S44)) l0 (l0.length : Int) 0) = some r := h
 clear h
 have H' := Aside0.mk H
 clear H
 go_enter Try.func101, Try.ntmps101
 go_wp2
 go_loopg [3, 8] k (fun kq v3 v8 w' => ∃ (x3_1 : List (S44)) (x8_1 : Int), v8 = .int .i64 x8_1 ∧ Aside0 (impl_copyAlarms.l0 kq x3_1 l0 (l0.length : Int) x8_1 = some r) ∧ Aside0 (kq ≤ k) ∧ Aside0 (Kd.S k44 44 w' w.heap.size (fun _ => True) v3 x3_1) ∧ Aside0 (Below w.heap.size w w'))
 case atStart => exact ⟨(([] : List (S44))), (0), (by first | rfl | (simp; done) | (simp [*]; done)), H', ⟨Nat.le_refl _⟩, ⟨by first | exact Kd.S_nil _ _ _ _ _ | exact Kd.N_nil _ _ _ _ _ | exact Kd.V_nil _ _ _ _ _ | exact Kd.Q_nil _ _ _ _ _ | exact Kd.R_nil _ _ _ _ _⟩, ⟨by exact hs_ HB.out⟩⟩
 case round =>
  clear H'
  try clear c1
  obtain ⟨x3_1, x8_1, rfl, HA, HK1, HO_3, HB⟩ := hrel
  cases gk with
  | zero => exact absurd HA.out (by simp [impl_copyAlarms.l0])
  | succ k1 =>
   have H := HA.out
   clear HA
   simp only [impl_copyAlarms.l0] at H
   by_cases c2 : x8_1 < (l0.length : Int)
   ·
    rw [if_pos c2] at H
    have c2b0 := decide_eq_true c2
    clear c2
    by_cases c3 : 0 ≤ x8_1
    ·
     rw [if_pos c3] at H
     have c3b0 := decide_eq_true c3
     clear c3
     by_cases c4 : x8_1 < (l0.length : Int)
     ·
      rw [if_pos c4] at H
      have c4b0 := decide_eq_true c4
      clear c4
      replace H := Option.bind_eq_some_iff.mp H
      obtain ⟨⟨t280, t283, t284, t285⟩, A50, H⟩ := H
      have A5 := Aside0.mk A50
      clear A50
      by_cases c6 : x3_1.length < 2513169434916
      ·
       rw [if_pos c6] at H
       have LMc6 := Aside0.mk c6
       clear c6
       obtain ⟨y286, hy286⟩ : ∃ y_ : List (S44), y_ = (x3_1 ++ [(⟨t280, t283, t284, t285⟩ : S44)]) := ⟨_, rfl⟩
       replace H : (impl_copyAlarms.l0 k1 y286 l0 (l0.length : Int) (wrap64 (x8_1 + 1))) = some r := by first | (rw [hy286]; with_reducible exact H) | (have H2_ := (Option.bind_some _ _).symm.trans H; rw [hy286]; with_reducible exact H2_) | (have H2_ := (Option.bind_some _ _).symm.trans H; with_reducible exact H2_) | with_reducible exact H | (rw [hy286]; exact H) | exact H
       have Ny286 := Aside0.mk hy286
       clear hy286
       have H' := Aside0.mk H
       clear H
       have p278 : 0 ≤ (x8_1 : Int) := of_decide_eq_true (by with_reducible assumption)
       have q278 : x8_1 < (l0.length : Int) := of_decide_eq_true (by with_reducible assumption)
       obtain ⟨ad278, A278_0, c278_0, e278, hx278_0, hx278_1, hx278_2, hx278_3, hl278_0, hi278_0⟩ := at_T44 HR0.out x8_1 p278 q278
       cases e278
       replace hx278_0 := cl_ HB.out hx278_0
       replace hx278_1 := cl_ HB.out hx278_1
       replace hx278_2 := cl_ HB.out hx278_2
       replace hx278_3 := cl_ HB.out hx278_3
       have HR278_0 := Aside0.mk hi278_0
       have HC278_0 := Aside0.mk hl278_0
       clear hi278_0 hl278_0
       replace p278 := eq_true p278
       replace q278 := eq_true q278
       go_wp2_with (first | ((with_reducible refine gd_ 5 rfl ?_); refine bv_ 5 #[.slice none 0 0, .int .i64 0, .int .i64 0, .string (⟨#[]⟩ : ByteArray)] 44 ?_; intro gb279 hg w7 hbox hb; replace HO_3 := Aside0.mk (Kd.S_below (Kd.S_elderB (sp_ HO_3.out) gb279 (Nat.le_of_eq hg.symm)) hb); have BK279 := Aside0.mk (hbox); have GW279 := Aside0.mk ((gw_ hg (hs_ HB.out))); replace HB := st_ HB hb; have GE279 := Ge_.mk GW279.out; clear hb hbox hg; obtain ⟨z8_0, z8_1, z8_2, z8_3, y8_0, y8_1, y8_2, y8_3⟩ := bc4_ BK279.out) | ((with_reducible refine gate_callee (f := 97) rfl ?_); refine gl_ (some 14) Try.func97 #[.agg #[.slice A278_0 ((rd_T44 l0 x8_1).f0).length c278_0, .int .i64 ((rd_T44 l0 x8_1).f1), .int .i64 ((rd_T44 l0 x8_1).f2), .string ((rd_T44 l0 x8_1).f3)]] ?_; (with_reducible refine (impl_copyAlarm.calls _ _ ((rd_T44 l0 x8_1).f0) ((rd_T44 l0 x8_1).f1) ((rd_T44 l0 x8_1).f2) ((rd_T44 l0 x8_1).f3) t280 t283 t284 t285 _ ?side1 ?side2 A5.out).mono ?_); (case side1 => exact Kd.C_below HR278_0.out (hs_ HB.out)); (case side2 => exact HC278_0.out); rintro e w9 ⟨v281, rfl, ho0, hb⟩; refine ⟨_, rfl, ?_⟩; replace HO_3 := Aside0.mk (Kd.S_elder' (by (with_reducible repeat (first | apply Kd.S_alloc | apply Kd.S_drewN | apply Kd.S_drew)); exact (Kd.S_mono (sf_ gb279 (Kd.S_mono HO_3.out (fun k_ hk => (⟨hk, hk.2⟩ : _ ∧ k_ ≠ gb279))) (fun _ hk => hk.2)) (fun _ h_ => h_.1))) (Kd.R_base ho0) hb); have HO282 := Aside0.mk (Kd.R_lower ho0 (below_size (hs_ HB.out))); replace BK279 := Aside0.mk (blk_below (g := gb279) (o := .cells #[.slice A278_0 ((rd_T44 l0 x8_1).f0).length c278_0, .int .i64 ((rd_T44 l0 x8_1).f1), .int .i64 ((rd_T44 l0 x8_1).f2), .string ((rd_T44 l0 x8_1).f3)] 44 (0, 0)) (bp_ BK279.out) hb); replace HB := st_ HB hb; (try clear hb); (try clear hk); (try clear ho0); obtain ⟨Ao11, co11, eo11⟩ := Kd.R_slice HO282.out; subst eo11) | ((with_reducible refine gate_builtin (b := .append) (xs := #[.tmp 12, .tmp 15]) rfl ?_); at_builtin; refine Kd.S_append k44 (w0 := w) w.heap.size rfl (.tmp 12) (.tmp 15) 37 44 (.agg #[(.slice none 0 0), (.int .i64 0), (.int .i64 0), (.string ⟨#[]⟩)]) 56 rfl Try.underlying37 info44 rfl (by decide) (by omega) u3 x3_1 (⟨t280, t283, t284, t285⟩ : S44) [.slice Ao11 t280.length co11, .int .i64 t283, .int .i64 t284, .string t285] (fun k_ => k_ ≠ gb279) (fun k_ => some k_ = (.slice Ao11 t280.length co11 : Value).ownBlock) rfl rfl ?aP (fun k_ hk_ => ((Kd.R_mono (ok' := fun k_ => ((fun k_ => k_ ≠ gb279)) k_ ∧ some k_ ≠ (u3 : Value).ownBlock) (Kd.R_types (Kd.R_apart' (HO282.out) (Kd.S_typed HO_3.out) (by decide)) BK279.out (by decide)) (fun k_ hk => ⟨hk.2, hk.1.2⟩))).1 k_ hk_.symm) ?aF ?aO ?aB ?aS ?aL ?_; (case aP => exact k44_mkM _ _ _ (⟨t280, t283, t284, t285⟩ : S44) (Kd.R_mono (Kd.R_tight rfl (Kd.R_mono (ok' := fun k_ => ((fun k_ => k_ ≠ gb279)) k_ ∧ some k_ ≠ (u3 : Value).ownBlock) (Kd.R_types (Kd.R_apart' (HO282.out) (Kd.S_typed HO_3.out) (by decide)) BK279.out (by decide)) (fun k_ hk => ⟨hk.2, hk.1.2⟩))) (fun _ h_ => h_))); (case aB => exact (hs_ HB.out)); (case aF => exact (fun k_ hk => Kd.freshB (g := gb279) (o := .cells #[.slice A278_0 ((rd_T44 l0 x8_1).f0).length c278_0, .int .i64 ((rd_T44 l0 x8_1).f1), .int .i64 ((rd_T44 l0 x8_1).f2), .string ((rd_T44 l0 x8_1).f3)] 44 (0, 0)) (pb_ BK279.out) k_ hk)); (case aO => exact (Kd.S_mono (sp_ HO_3.out) (fun k_ hk => ⟨hk.1.2, fun e_ => hk.2 e_⟩))); (case aS => exact (below_size (hs_ HB.out))); (case aL => have := LMc6.out; omega); intro v287 w10 ho hb hg hat; rw [← Ny286.out] at ho; replace BK279 := Aside0.mk (blk_grown (bq_ BK279.out) hg (Kd.S_away HO_3.out (fun _ hk => hk.1.2))); replace HB := Aside0.mk (hb); have HO288 := Aside0.mk (ho); clear HO_3 HO282; clear ho hb hg hat))
       go_roundg k1
       case measure => have := HK1.out; omega
       case rel => exact ⟨(y286), (wrap64 (x8_1 + 1)), (by first | rfl | (simp; done) | (simp [*]; done)), H', ⟨by have := HK1.out; omega⟩, ⟨by (with_reducible repeat (first | apply Kd.S_alloc | apply Kd.S_drewN | apply Kd.S_drew)); exact Kd.S_mono HO288.out (fun _ hk => trivial)⟩, ⟨by exact hs_ HB.out⟩⟩
      rw [if_neg c6] at H
      exact absurd H (by simp)
     rw [if_neg c4] at H
     exact absurd H (by simp)
    rw [if_neg c3] at H
    exact absurd H (by simp)
   rw [if_neg c2] at H
   have c2b0 : decide (x8_1 < (l0.length : Int)) = false := decide_eq_false c2
   clear c2
   obtain rfl := Option.some.inj H
   go_wp2
   go_ret
   exact ⟨_, by first | rfl | (simp [errW_none, errW_some] <;> rfl) | (simp [*, errW_none, errW_some] <;> rfl), by (with_reducible repeat (first | apply Kd.S_alloc | apply Kd.S_drewN | apply Kd.S_drew)); exact HO_3.out, by exact hs_ HB.out⟩
def impl_copySub.f (k : Nat) (l0_0 : List (S44)) (a0_1 : Bool) : Option ((List (S44)) × Bool) := (impl_copyAlarms.f k l0_0).bind fun t291 => (some (t291, a0_1))
theorem impl_copySub.mono : ∀ a0 a1 k, LeO (impl_copySub.f k a0 a1) (impl_copySub.f (k + 1) a0 a1) := by
 intro a0 a1 k
 unfold impl_copySub.f
 repeat' first | (with_reducible first | exact impl_copyAlarms.mono _ _ | exact LeO.refl _ | exact LeO.none _ | refine LeO.ite ?_ ?_ | refine LeO.bind ?_ (fun _ => ?_)) | exact impl_copyAlarms.mono _ _
theorem impl_copySub.calls (k : Nat) (A0_0 : Option Addr) (c0_0 : Nat) (l0_0 : List (S44)) (a0_1 : Bool) (r1 : List (S44)) (r2 : Bool) (w : World) (hr0_0 : Kd.C k44 w A0_0 l0_0.length l0_0) (hc0_0 : l0_0.length ≤ c0_0) (h : impl_copySub.f k l0_0 a0_1 = some (r1, r2)) :
  Calls Try.prog 96 #[.agg #[.slice A0_0 l0_0.length c0_0, .bool a0_1]] w fun e w' => ∃ v0_ : Value, e = .returned (.agg #[v0_, .bool r2]) ∧ Kd.S k44 44 w' w.heap.size (fun _ => True) v0_ r1 ∧ Below w.heap.size w w' := by
 have hu39 := Try.underlying39
 have HR0_0 := Aside0.mk hr0_0
 have HC0_0 := Aside0.mk hc0_0
 clear hr0_0 hc0_0
 have HB := Aside0.mk (Below.refl w.heap.size w)
 have H : ((impl_copyAlarms.f k l0_0).bind fun t291 => (some (t291, a0_1))) = some (r1, r2) := h
 clear h
 replace H := Option.bind_eq_some_iff.mp H
 obtain ⟨t291, A20, H⟩ := H
 have A2 := Aside0.mk A20
 clear A20
 simp only [Option.some.injEq, Prod.mk.injEq] at H
 obtain ⟨rfl, rfl⟩ := H
 go_enter Try.func96, Try.ntmps96
 try go_wp2_with (first | ((with_reducible refine gd_ 1 rfl ?_); refine bv_ 1 #[.slice A0_0 l0_0.length c0_0, .bool a0_1] 39 ?_; intro gb289 hg w3 hbox hb; have BK289 := Aside0.mk (hbox); have GW289 := Aside0.mk ((gw_ hg (hs_ HB.out))); replace HB := st_ HB hb; have GE289 := Ge_.mk GW289.out; clear hb hbox hg) | ((with_reducible refine gd_ 2 rfl ?_); refine bv_ 2 #[.slice none 0 0, .bool false] 39 ?_; intro gb290 hg w4 hbox hb; have BK290 := Aside0.mk (hbox); have GW290 := Aside0.mk ((gw_ hg (hs_ HB.out))); replace HB := st_ HB hb; have GE290 := Ge_.mk GW290.out; have NB289_290 := Ne_.mk (nl_ BK289.out hg); replace BK289 := bk2_ BK289 hb; have NB290_289 := Ne_.mk (NB289_290.out.symm); clear hb hbox hg))
 replace BK289 := Aside0.mk (blk_drew BK289.out)
 replace BK290 := Aside0.mk (blk_drew BK290.out)
 replace HB := Aside0.mk (bd_ HB.out)
 refine start_ (n := 7) (S := fun w' => w'.cell? ⟨gb289, 0, none⟩ = some (.slice A0_0 l0_0.length c0_0) ∧ w'.cell? ⟨gb289, 1, none⟩ = some (.bool a0_1)) (ds := []) #[f_,f_,f_,f_,f_,f_,f_] (by kernel_rfl) rfl rfl ⟨bx_ BK289.out 0, bx_ BK289.out 1⟩ (fun hHeld => ?_)
 generalize w4.drew = w5 at BK289 BK290 HB hHeld ⊢
 refine pure_ (i := 0) (N := some 3) (v := ?_) (a' := ?_) #[t_,f_,f_,f_,f_,f_,f_] rfl rfl (by kernel_rfl) (fun _ _ _ h => h) (Or.inl ⟨by rfl, ?_⟩) ?_ ?_
 rotate_left
 ·
  intro w'
  go_simp
  with_reducible rfl
 rotate_left
 ·
  simp only [fr_]
  rfl
 refine pure_ (i := 3) (N := some 6) (v := ?_) (a' := ?_) #[t_,f_,f_,t_,f_,f_,f_] rfl rfl (by kernel_rfl) (fun _ _ _ h => h) (Or.inl ⟨by rfl, ?_⟩) ?_ ?_
 rotate_left
 ·
  intro w'
  go_simp
  with_reducible rfl
 rotate_left
 ·
  simp only [fr_]
  rfl
 refine take_ (i := 1) (N := some 4) (v := ?_) (a' := ?_) #[t_,t_,f_,t_,f_,f_,f_] rfl rfl (by kernel_rfl) (fun _ _ _ h => h) (Or.inl ⟨by rfl, ?_⟩) hHeld ?_ ?_
 rotate_left
 ·
  rintro w' ⟨s0, s1⟩
  go_simp
  with_reducible rfl
 rotate_left
 ·
  simp only [fr_]
  rfl
 refine take_ (i := 4) (N := some 7) (v := ?_) (a' := ?_) #[t_,t_,f_,t_,t_,f_,f_] rfl rfl (by kernel_rfl) (fun _ _ _ h => h) (Or.inl ⟨by rfl, ?_⟩) hHeld ?_ ?_
 rotate_left
 ·
  rintro w' ⟨s0, s1⟩
  go_simp
  with_reducible rfl
 rotate_left
 ·
  simp only [fr_]
  rfl
 refine one_ (i := 2) (N := some 5) #[t_,t_,t_,t_,t_,f_,f_] rfl rfl (by kernel_rfl) (by decide) (fun K hK => ?_)
 refine gs_ Try.func101 #[.slice A0_0 l0_0.length c0_0] ?_
 with_reducible refine (impl_copyAlarms.calls k _ _ l0_0 t291 _ ?side1 ?side2 A2.out).mono ?_
 (case side1 => exact cp_ ((Kd.C_below HR0_0.out HB.out)))
 (case side2 => exact HC0_0.out)
 rintro e w6 ⟨v292, rfl, ho0, hb⟩
 refine ⟨_, rfl, ?_⟩
 have HO293 := Aside0.mk (Kd.S_lower ho0 (below_size (hs_ HB.out)))
 replace BK289 := bk2_ BK289 hb
 replace BK290 := bk2_ BK290 hb
 replace HB := st_ HB hb
 (try clear hb)
 (try clear hk)
 (try clear ho0)
 obtain ⟨Ao7, co7, eo7⟩ := Kd.S_slice HO293.out
 (first | subst eo7 | (obtain ⟨rfl, rfl⟩ := si_ eo7))
 refine hK.out _ _ ⟨bx_ BK289.out 0, bx_ BK289.out 1⟩ (fun hHeld => ?_)
 clear hK K
 refine norm_ (a' := ?_) ?_ ?_
 rotate_left
 ·
  show Act.put _ (some 5) _ = _
  simp only [fr_]
  rfl
 refine pure_ (i := 5) (N := some 8) (v := ?_) (a' := ?_) #[t_,t_,t_,t_,t_,t_,f_] rfl rfl (by kernel_rfl) (fun _ _ _ h => h) (Or.inl ⟨by rfl, ?_⟩) ?_ ?_
 rotate_left
 ·
  intro w'
  go_simp
  with_reducible rfl
 rotate_left
 ·
  simp only [fr_]
  rfl
 refine one_ (i := 6) (N := none) #[t_,t_,t_,t_,t_,t_,t_] rfl rfl (by kernel_rfl) (by decide) (fun K hK => ?_)
 have hs8 : w6.cell? ⟨gb290, 0, none⟩ = some (.slice none 0 0) := bx_ BK290.out 0
 have hfs8 := blk_frozen BK290.out 0
 have hns8_0 := NB289_290.out
 have hms8_0 := NB290_289.out
 have hs9 : w6.cell? ⟨gb290, 1, none⟩ = some (.bool false) := bx_ BK290.out 1
 have hfs9 := blk_frozen BK290.out 1
 have hns9_0 := NB289_290.out
 have hms9_0 := NB290_289.out
 refine skip_ (w1 := ?_) (by rfl) rfl ?_ ?_
 rotate_left
 ·
  go_simp
  rfl
 refine hK.out _ _ ⟨(cg_ (hHeld.1)), (cg_ (hHeld.2))⟩ (fun hHeld => ?_)
 clear hK K
 refine done_ (by kernel_rfl) ?_
 try go_wp2
 refine bodyPost_ret (results_cell_row rfl _ _ gb290 39 #[.slice Ao7 t291.length co7, .bool a0_1] (0, 0) _ rfl (bp_ BK290.out) Try.underlying39 rfl (by kernel_rfl)) rfl ?_
 exact ⟨_, by first | rfl | (simp [errW_none, errW_some] <;> rfl) | (simp [*, errW_none, errW_some] <;> rfl), by (with_reducible repeat (first | apply Kd.S_alloc | apply Kd.S_drewN | apply Kd.S_drew)); exact Kd.S_mono (sf_ gb290 (Kd.S_types HO293.out BK290.out (by decide)) (fun _ hk => hk.2)) (fun _ hk => trivial), by exact hs_ HB.out⟩
def impl_Tell.f (k : Nat) (l0_0 : List (S44)) (a0_1 : Bool) (l1_0 : List (S164)) (a1_1 : Int) (a1_2 : Int) (a1_3 : ByteArray) : Option ((List (S44)) × Bool) := (impl_copySub.f k l0_0 a0_1).bind fun bt297 => (if a0_1 = true then (some (bt297.1, bt297.2)) else (if (l0_0.length : Int) ≥ 3 then (some (([] : List (S44)), true)) else ((impl_copyAlarm.f l1_0 a1_1 a1_2 a1_3).bind fun bt302 => (if bt297.1.length < 2513169434916 then (some ((bt297.1 ++ [(⟨bt302.1, bt302.2.1, bt302.2.2.1, bt302.2.2.2⟩ : S44)]), bt297.2)) else (none)))))
theorem impl_Tell.mono : ∀ a0 a1 a2 a3 a4 a5 k, LeO (impl_Tell.f k a0 a1 a2 a3 a4 a5) (impl_Tell.f (k + 1) a0 a1 a2 a3 a4 a5) := by
 intro a0 a1 a2 a3 a4 a5 k
 unfold impl_Tell.f
 repeat' first | (with_reducible first | exact impl_copySub.mono _ _ _ | exact LeO.refl _ | exact LeO.none _ | refine LeO.ite ?_ ?_ | refine LeO.bind ?_ (fun _ => ?_)) | exact impl_copySub.mono _ _ _
def impl_Tell.T2 : Bool × List (List Nat × List Nat) := (true, [([], []), ([0], [0]), ([], []), ([2], [2]), ([3], [3]), ([1, 4, 3], [1, 4]), ([0, 1, 2, 3, 4, 5], []), ([6, 5, 5, 0, 1, 2, 3, 4, 5], [5, 6])])
def impl_Tell.B2 : List Nat := [0, 1, 0, 4, 12, 31, 63, 127]
theorem impl_Tell.tab2 : rtab .any (opsOf Try.f25 2) = impl_Tell.T2 := by kernel_rfl
theorem impl_Tell.bits2 : waitsOk impl_Tell.T2.2 impl_Tell.B2 = true := by kernel_rfl
theorem impl_Tell.calls (k : Nat) (A0_0 : Option Addr) (c0_0 : Nat) (l0_0 : List (S44)) (a0_1 : Bool) (A1_0 : Option Addr) (c1_0 : Nat) (l1_0 : List (S164)) (a1_1 : Int) (a1_2 : Int) (a1_3 : ByteArray) (r1 : List (S44)) (r2 : Bool) (w : World) (hr0_0 : Kd.C k44 w A0_0 l0_0.length l0_0) (hc0_0 : l0_0.length ≤ c0_0) (hr1_0 : Kd.C k164 w A1_0 l1_0.length l1_0) (hc1_0 : l1_0.length ≤ c1_0) (h : impl_Tell.f k l0_0 a0_1 l1_0 a1_1 a1_2 a1_3 = some (r1, r2)) :
  Calls Try.prog 25 #[.agg #[.slice A0_0 l0_0.length c0_0, .bool a0_1], .agg #[.slice A1_0 l1_0.length c1_0, .int .i64 a1_1, .int .i64 a1_2, .string a1_3]] w fun e w' => ∃ v0_ : Value, e = .returned (.agg #[v0_, .bool r2]) ∧ Kd.S k44 44 w' w.heap.size (fun _ => True) v0_ r1 ∧ Below w.heap.size w w' := by
 have hu39 := Try.underlying39
 have hu44 := Try.underlying44
 have HR0_0 := Aside0.mk hr0_0
 have HC0_0 := Aside0.mk hc0_0
 clear hr0_0 hc0_0
 have HR1_0 := Aside0.mk hr1_0
 have HC1_0 := Aside0.mk hc1_0
 clear hr1_0 hc1_0
 have HB := Aside0.mk (Below.refl w.heap.size w)
 have H : ((impl_copySub.f k l0_0 a0_1).bind fun bt297 => (if a0_1 = true then (some (bt297.1, bt297.2)) else (if (l0_0.length : Int) ≥ 3 then (some (([] : List (S44)), true)) else ((impl_copyAlarm.f l1_0 a1_1 a1_2 a1_3).bind fun bt302 => (if bt297.1.length < 2513169434916 then (some ((bt297.1 ++ [(⟨bt302.1, bt302.2.1, bt302.2.2.1, bt302.2.2.2⟩ : S44)]), bt297.2)) else (none)))))) = some (r1, r2) := h
 clear h
 replace H := Option.bind_eq_some_iff.mp H
 obtain ⟨⟨t297, t300⟩, A30, H⟩ := H
 have A3 := Aside0.mk A30
 clear A30
 by_cases c4 : a0_1 = true
 ·
  subst c4
  rw [if_pos rfl] at H
  simp only [Option.some.injEq, Prod.mk.injEq] at H
  obtain ⟨rfl, rfl⟩ := H
  go_enter Try.func25, Try.ntmps25
  go_wp2_with (first | ((with_reducible refine gd_ 2 rfl ?_); refine bv_ 2 #[.slice A0_0 l0_0.length c0_0, .bool true] 39 ?_; intro gb294 hg w5 hbox hb; have BK294 := Aside0.mk (hbox); have GW294 := Aside0.mk ((gw_ hg (hs_ HB.out))); replace HB := st_ HB hb; have GE294 := Ge_.mk GW294.out; clear hb hbox hg) | ((with_reducible refine gd_ 3 rfl ?_); refine bv_ 3 #[.slice A1_0 l1_0.length c1_0, .int .i64 a1_1, .int .i64 a1_2, .string a1_3] 44 ?_; intro gb295 hg w6 hbox hb; have BK295 := Aside0.mk (hbox); have GW295 := Aside0.mk ((gw_ hg (hs_ HB.out))); replace HB := st_ HB hb; have GE295 := Ge_.mk GW295.out; have NB294_295 := Ne_.mk (nl_ BK294.out hg); replace BK294 := bk2_ BK294 hb; have NB295_294 := Ne_.mk (NB294_295.out.symm); clear hb hbox hg) | ((with_reducible refine gd_ 4 rfl ?_); refine bv_ 4 #[.slice none 0 0, .bool false] 39 ?_; intro gb296 hg w7 hbox hb; have BK296 := Aside0.mk (hbox); have GW296 := Aside0.mk ((gw_ hg (hs_ HB.out))); replace HB := st_ HB hb; have GE296 := Ge_.mk GW296.out; have NB294_296 := Ne_.mk (nl_ BK294.out hg); replace BK294 := bk2_ BK294 hb; have NB296_294 := Ne_.mk (NB294_296.out.symm); have NB295_296 := Ne_.mk (nl_ BK295.out hg); replace BK295 := bk2_ BK295 hb; have NB296_295 := Ne_.mk (NB295_296.out.symm); clear hb hbox hg; have hnb8 := NB294_295.out; have hnc8 := NB295_294.out; have hnb9 := NB294_296.out; have hnc9 := NB296_294.out; obtain ⟨z10_0, z10_1, y10_0, y10_1⟩ := bc2_ BK294.out) | ((with_reducible refine gate_callee (f := 96) rfl ?_); refine gl_ (some 7) Try.func96 #[.agg #[.slice A0_0 l0_0.length c0_0, .bool true]] ?_; (with_reducible refine (impl_copySub.calls k _ _ l0_0 true t297 t300 _ ?side1 ?side2 A3.out).mono ?_); (case side1 => exact cp_ ((Kd.C_below HR0_0.out HB.out))); (case side2 => exact HC0_0.out); rintro e w11 ⟨v298, rfl, ho0, hb⟩; refine ⟨_, rfl, ?_⟩; have HO299 := Aside0.mk (Kd.S_lower (Kd.S_newB ho0 (g := gb295) (o := .cells #[.slice A1_0 l1_0.length c1_0, .int .i64 a1_1, .int .i64 a1_2, .string a1_3] 44 (0, 0)) (pb_ BK295.out)) (below_size (hs_ HB.out))); replace BK294 := bk2_ BK294 hb; replace BK295 := bk2_ BK295 hb; replace BK296 := bk2_ BK296 hb; replace HB := st_ HB hb; (try clear hb); (try clear hk); (try clear ho0)) | ((with_reducible refine gd_ 5 rfl ?_); refine bv_ 5 #[.slice none 0 0, .bool false] 39 ?_; intro gb301 hg w12 hbox hb; replace HO299 := Aside0.mk (Kd.S_below (sp_ HO299.out) hb); have BK301 := Aside0.mk (hbox); have GW301 := Aside0.mk ((gw_ hg (hs_ HB.out))); replace HB := st_ HB hb; have GE301 := Ge_.mk GW301.out; have NB294_301 := Ne_.mk (nl_ BK294.out hg); replace BK294 := bk2_ BK294 hb; have NB301_294 := Ne_.mk (NB294_301.out.symm); have NB295_301 := Ne_.mk (nl_ BK295.out hg); replace BK295 := bk2_ BK295 hb; have NB301_295 := Ne_.mk (NB295_301.out.symm); have NB296_301 := Ne_.mk (nl_ BK296.out hg); replace BK296 := bk2_ BK296 hb; have NB301_296 := Ne_.mk (NB296_301.out.symm); clear hb hbox hg; obtain ⟨Ao13, co13, eo13⟩ := Kd.S_slice HO299.out; subst eo13; have hnb14 := NB301_294.out; have hnc14 := NB294_301.out; have hnb15 := NB301_295.out; have hnc15 := NB295_301.out; have hnb16 := NB301_296.out; have hnc16 := NB296_301.out; obtain ⟨z17_0, z17_1, y17_0, y17_1⟩ := bc2_ BK301.out; obtain ⟨z18_0, z18_1, y18_0, y18_1⟩ := bc2_ BK294.out; have hnb19 := NB296_295.out; have hnc19 := NB295_296.out; obtain ⟨z20_0, z20_1, y20_0, y20_1⟩ := bc2_ BK296.out))
  refine bodyPost_ret (results_cell_row rfl _ _ gb296 39 #[.slice Ao13 t297.length co13, .bool t300] (0, 0) _ rfl (bp_ BK296.out) Try.underlying39 rfl (by kernel_rfl)) rfl ?_
  exact ⟨_, by first | rfl | (simp [errW_none, errW_some] <;> rfl) | (simp [*, errW_none, errW_some] <;> rfl), by (with_reducible repeat (first | apply Kd.S_alloc | apply Kd.S_drewN | apply Kd.S_drew)); exact Kd.S_mono (sf_ gb296 (Kd.S_far (p := ⟨gb301, 1, none⟩) (Kd.S_far (p := ⟨gb301, 0, none⟩) (Kd.S_types (Kd.S_types HO299.out BK301.out (by decide)) BK296.out (by decide)) (fun _ hk => hk.1.2) (.slice Ao13 t297.length co13)) (fun _ hk => hk.1.2) (.bool t300)) (fun _ hk => hk.2)) (fun _ hk => trivial), by exact hs_ HB.out⟩
 replace c4 := Bool.eq_false_iff.mpr c4
 subst c4
 rw [if_neg (show ¬ (false = true) by decide)] at H
 by_cases c21 : (l0_0.length : Int) ≥ 3
 ·
  rw [if_pos c21] at H
  have c21b0 : decide (3 ≤ (l0_0.length : Int)) = true := decide_eq_true c21
  have c21b1 : decide (3 ≤ l0_0.length) = true := decide_eq_true (by omega)
  clear c21
  simp only [Option.some.injEq, Prod.mk.injEq] at H
  obtain ⟨rfl, rfl⟩ := H
  go_enter Try.func25, Try.ntmps25
  go_wp2_with (first | ((with_reducible refine gd_ 2 rfl ?_); refine bv_ 2 #[.slice A0_0 l0_0.length c0_0, .bool false] 39 ?_; intro gb294 hg w22 hbox hb; have BK294 := Aside0.mk (hbox); have GW294 := Aside0.mk ((gw_ hg (hs_ HB.out))); replace HB := st_ HB hb; have GE294 := Ge_.mk GW294.out; clear hb hbox hg) | ((with_reducible refine gd_ 3 rfl ?_); refine bv_ 3 #[.slice A1_0 l1_0.length c1_0, .int .i64 a1_1, .int .i64 a1_2, .string a1_3] 44 ?_; intro gb295 hg w23 hbox hb; have BK295 := Aside0.mk (hbox); have GW295 := Aside0.mk ((gw_ hg (hs_ HB.out))); replace HB := st_ HB hb; have GE295 := Ge_.mk GW295.out; have NB294_295 := Ne_.mk (nl_ BK294.out hg); replace BK294 := bk2_ BK294 hb; have NB295_294 := Ne_.mk (NB294_295.out.symm); clear hb hbox hg) | ((with_reducible refine gd_ 4 rfl ?_); refine bv_ 4 #[.slice none 0 0, .bool false] 39 ?_; intro gb296 hg w24 hbox hb; have BK296 := Aside0.mk (hbox); have GW296 := Aside0.mk ((gw_ hg (hs_ HB.out))); replace HB := st_ HB hb; have GE296 := Ge_.mk GW296.out; have NB294_296 := Ne_.mk (nl_ BK294.out hg); replace BK294 := bk2_ BK294 hb; have NB296_294 := Ne_.mk (NB294_296.out.symm); have NB295_296 := Ne_.mk (nl_ BK295.out hg); replace BK295 := bk2_ BK295 hb; have NB296_295 := Ne_.mk (NB295_296.out.symm); clear hb hbox hg; have hnb25 := NB294_295.out; have hnc25 := NB295_294.out; have hnb26 := NB294_296.out; have hnc26 := NB296_294.out; obtain ⟨z27_0, z27_1, y27_0, y27_1⟩ := bc2_ BK294.out) | ((with_reducible refine gate_callee (f := 96) rfl ?_); refine gl_ (some 7) Try.func96 #[.agg #[.slice A0_0 l0_0.length c0_0, .bool false]] ?_; (with_reducible refine (impl_copySub.calls k _ _ l0_0 false t297 t300 _ ?side1 ?side2 A3.out).mono ?_); (case side1 => exact cp_ ((Kd.C_below HR0_0.out HB.out))); (case side2 => exact HC0_0.out); rintro e w28 ⟨v298, rfl, ho0, hb⟩; refine ⟨_, rfl, ?_⟩; have HO299 := Aside0.mk (Kd.S_lower (Kd.S_newB ho0 (g := gb295) (o := .cells #[.slice A1_0 l1_0.length c1_0, .int .i64 a1_1, .int .i64 a1_2, .string a1_3] 44 (0, 0)) (pb_ BK295.out)) (below_size (hs_ HB.out))); replace BK294 := bk2_ BK294 hb; replace BK295 := bk2_ BK295 hb; replace BK296 := bk2_ BK296 hb; replace HB := st_ HB hb; (try clear hb); (try clear hk); (try clear ho0)) | ((with_reducible refine gd_ 5 rfl ?_); refine bv_ 5 #[.slice none 0 0, .bool false] 39 ?_; intro gb301 hg w29 hbox hb; replace HO299 := Aside0.mk (Kd.S_below (sp_ HO299.out) hb); have BK301 := Aside0.mk (hbox); have GW301 := Aside0.mk ((gw_ hg (hs_ HB.out))); replace HB := st_ HB hb; have GE301 := Ge_.mk GW301.out; have NB294_301 := Ne_.mk (nl_ BK294.out hg); replace BK294 := bk2_ BK294 hb; have NB301_294 := Ne_.mk (NB294_301.out.symm); have NB295_301 := Ne_.mk (nl_ BK295.out hg); replace BK295 := bk2_ BK295 hb; have NB301_295 := Ne_.mk (NB295_301.out.symm); have NB296_301 := Ne_.mk (nl_ BK296.out hg); replace BK296 := bk2_ BK296 hb; have NB301_296 := Ne_.mk (NB296_301.out.symm); clear hb hbox hg; obtain ⟨Ao30, co30, eo30⟩ := Kd.S_slice HO299.out; subst eo30; have hnb31 := NB301_294.out; have hnc31 := NB294_301.out; have hnb32 := NB301_295.out; have hnc32 := NB295_301.out; have hnb33 := NB301_296.out; have hnc33 := NB296_301.out; obtain ⟨z34_0, z34_1, y34_0, y34_1⟩ := bc2_ BK301.out; obtain ⟨z35_0, z35_1, y35_0, y35_1⟩ := bc2_ BK294.out; have hnb36 := NB296_295.out; have hnc36 := NB295_296.out; obtain ⟨z37_0, z37_1, y37_0, y37_1⟩ := bc2_ BK296.out))
  refine bodyPost_ret (results_cell_row rfl _ _ gb296 39 #[.slice none 0 0, .bool true] (0, 0) _ rfl (bp_ BK296.out) Try.underlying39 rfl (by kernel_rfl)) rfl ?_
  exact ⟨_, by first | rfl | (simp [errW_none, errW_some] <;> rfl) | (simp [*, errW_none, errW_some] <;> rfl), by first | exact Kd.S_nil _ _ _ _ _ | exact Kd.N_nil _ _ _ _ _ | exact Kd.V_nil _ _ _ _ _ | exact Kd.Q_nil _ _ _ _ _ | exact Kd.R_nil _ _ _ _ _, by exact hs_ HB.out⟩
 rw [if_neg c21] at H
 have c21b0 : decide (3 ≤ (l0_0.length : Int)) = false := decide_eq_false c21
 have c21b1 : decide (3 ≤ l0_0.length) = false := decide_eq_false (by omega)
 clear c21
 replace H := Option.bind_eq_some_iff.mp H
 obtain ⟨⟨t302, t305, t306, t307⟩, A380, H⟩ := H
 have A38 := Aside0.mk A380
 clear A380
 by_cases c39 : t297.length < 2513169434916
 ·
  rw [if_pos c39] at H
  have LMc39 := Aside0.mk c39
  clear c39
  obtain ⟨y308, hy308⟩ : ∃ y_ : List (S44), y_ = (t297 ++ [(⟨t302, t305, t306, t307⟩ : S44)]) := ⟨_, rfl⟩
  replace H : (some (y308, t300)) = some (r1, r2) := by first | (rw [hy308]; with_reducible exact H) | (have H2_ := (Option.bind_some _ _).symm.trans H; rw [hy308]; with_reducible exact H2_) | (have H2_ := (Option.bind_some _ _).symm.trans H; with_reducible exact H2_) | with_reducible exact H | (rw [hy308]; exact H) | exact H
  have Ny308 := Aside0.mk hy308
  clear hy308
  simp only [Option.some.injEq, Prod.mk.injEq] at H
  obtain ⟨rfl, rfl⟩ := H
  go_enter Try.func25, Try.ntmps25
  try go_wp2_with (first | ((with_reducible refine gd_ 2 rfl ?_); refine bv_ 2 #[.slice A0_0 l0_0.length c0_0, .bool false] 39 ?_; intro gb294 hg w40 hbox hb; have BK294 := Aside0.mk (hbox); have GW294 := Aside0.mk ((gw_ hg (hs_ HB.out))); replace HB := st_ HB hb; have GE294 := Ge_.mk GW294.out; clear hb hbox hg) | ((with_reducible refine gd_ 3 rfl ?_); refine bv_ 3 #[.slice A1_0 l1_0.length c1_0, .int .i64 a1_1, .int .i64 a1_2, .string a1_3] 44 ?_; intro gb295 hg w41 hbox hb; have BK295 := Aside0.mk (hbox); have GW295 := Aside0.mk ((gw_ hg (hs_ HB.out))); replace HB := st_ HB hb; have GE295 := Ge_.mk GW295.out; have NB294_295 := Ne_.mk (nl_ BK294.out hg); replace BK294 := bk2_ BK294 hb; have NB295_294 := Ne_.mk (NB294_295.out.symm); clear hb hbox hg) | ((with_reducible refine gd_ 4 rfl ?_); refine bv_ 4 #[.slice none 0 0, .bool false] 39 ?_; intro gb296 hg w42 hbox hb; have BK296 := Aside0.mk (hbox); have GW296 := Aside0.mk ((gw_ hg (hs_ HB.out))); replace HB := st_ HB hb; have GE296 := Ge_.mk GW296.out; have NB294_296 := Ne_.mk (nl_ BK294.out hg); replace BK294 := bk2_ BK294 hb; have NB296_294 := Ne_.mk (NB294_296.out.symm); have NB295_296 := Ne_.mk (nl_ BK295.out hg); replace BK295 := bk2_ BK295 hb; have NB296_295 := Ne_.mk (NB295_296.out.symm); clear hb hbox hg; have hnb43 := NB294_295.out; have hnc43 := NB295_294.out; have hnb44 := NB294_296.out; have hnc44 := NB296_294.out; obtain ⟨z45_0, z45_1, y45_0, y45_1⟩ := bc2_ BK294.out) | ((with_reducible refine gate_callee (f := 96) rfl ?_); refine gl_ (some 7) Try.func96 #[.agg #[.slice A0_0 l0_0.length c0_0, .bool false]] ?_; (with_reducible refine (impl_copySub.calls k _ _ l0_0 false t297 t300 _ ?side1 ?side2 A3.out).mono ?_); (case side1 => exact cp_ ((Kd.C_below HR0_0.out HB.out))); (case side2 => exact HC0_0.out); rintro e w46 ⟨v298, rfl, ho0, hb⟩; refine ⟨_, rfl, ?_⟩; have HO299 := Aside0.mk (Kd.S_lower (Kd.S_newB ho0 (g := gb295) (o := .cells #[.slice A1_0 l1_0.length c1_0, .int .i64 a1_1, .int .i64 a1_2, .string a1_3] 44 (0, 0)) (pb_ BK295.out)) (below_size (hs_ HB.out))); replace BK294 := bk2_ BK294 hb; replace BK295 := bk2_ BK295 hb; replace BK296 := bk2_ BK296 hb; replace HB := st_ HB hb; (try clear hb); (try clear hk); (try clear ho0)) | ((with_reducible refine gd_ 5 rfl ?_); refine bv_ 5 #[.slice none 0 0, .bool false] 39 ?_; intro gb301 hg w47 hbox hb; replace HO299 := Aside0.mk (Kd.S_below (sp_ HO299.out) hb); have BK301 := Aside0.mk (hbox); have GW301 := Aside0.mk ((gw_ hg (hs_ HB.out))); replace HB := st_ HB hb; have GE301 := Ge_.mk GW301.out; have NB294_301 := Ne_.mk (nl_ BK294.out hg); replace BK294 := bk2_ BK294 hb; have NB301_294 := Ne_.mk (NB294_301.out.symm); have NB295_301 := Ne_.mk (nl_ BK295.out hg); replace BK295 := bk2_ BK295 hb; have NB301_295 := Ne_.mk (NB295_301.out.symm); have NB296_301 := Ne_.mk (nl_ BK296.out hg); replace BK296 := bk2_ BK296 hb; have NB301_296 := Ne_.mk (NB296_301.out.symm); clear hb hbox hg; obtain ⟨Ao48, co48, eo48⟩ := Kd.S_slice HO299.out; subst eo48; have hnb49 := NB301_294.out; have hnc49 := NB294_301.out; have hnb50 := NB301_295.out; have hnc50 := NB295_301.out; have hnb51 := NB301_296.out; have hnc51 := NB296_301.out; obtain ⟨z52_0, z52_1, y52_0, y52_1⟩ := bc2_ BK301.out; obtain ⟨z53_0, z53_1, y53_0, y53_1⟩ := bc2_ BK294.out))
  generalize hw_ : ((w47.setCell ⟨gb301, 0, none⟩ (.slice Ao48 t297.length co48)).setCell ⟨gb301, 1, none⟩ (.bool t300)) = w54
  have n0_ : Aside0 (Kd.S k44 44 w54 w.heap.size (fun k_ => k_ ≠ gb295) (.slice Ao48 t297.length co48) t297) := ⟨by rw [← hw_]; exact (Kd.S_mono (sf_ gb301 (Kd.S_types HO299.out BK301.out (by decide)) (fun _ hk => hk.2)) (fun _ hk => hk.1.2))⟩
  have n1_ : Aside0 (w54.heap[gb294]? = some (.cells #[.slice A0_0 l0_0.length c0_0, .bool false] 39 (0, 0))) := ⟨by rw [← hw_]; exact (bq_ BK294.out)⟩
  have n2_ : Aside0 (w54.heap[gb295]? = some (.cells #[.slice A1_0 l1_0.length c1_0, .int .i64 a1_1, .int .i64 a1_2, .string a1_3] 44 (0, 0))) := ⟨by rw [← hw_]; exact (bq_ BK295.out)⟩
  have n3_ : Aside0 (w54.heap[gb296]? = some (.cells #[.slice none 0 0, .bool false] 39 (0, 0))) := ⟨by rw [← hw_]; exact (bq_ BK296.out)⟩
  have n4_ : Aside0 (w54.heap[gb301]? = some (.cells #[.slice Ao48 t297.length co48, .bool t300] 39 (0, 0))) := ⟨by rw [← hw_]; exact (bp_ BK301.out)⟩
  have n5_ : Aside0 (Below w.heap.size w w54) := ⟨by rw [← hw_]; exact (hs_ HB.out)⟩
  clear hw_
  (try clear HO299)
  (try clear BK294)
  (try clear BK295)
  (try clear BK296)
  (try clear BK301)
  (try clear HB)
  have HO299 := n0_
  have BK294 := n1_
  have BK295 := n2_
  have BK296 := n3_
  have BK301 := n4_
  have HB := n5_
  clear n0_ n1_ n2_ n3_ n4_ n5_
  replace HO299 := Aside0.mk (Kd.S_drew HO299.out)
  replace BK294 := Aside0.mk (blk_drew BK294.out)
  replace BK295 := Aside0.mk (blk_drew BK295.out)
  replace BK296 := Aside0.mk (blk_drew BK296.out)
  replace BK301 := Aside0.mk (blk_drew BK301.out)
  replace HB := Aside0.mk (bd_ HB.out)
  refine start_ (n := 8) (S := fun w' => w'.cell? ⟨gb301, 0, none⟩ = some (.slice Ao48 t297.length co48) ∧ w'.cell? ⟨gb301, 1, none⟩ = some (.bool t300) ∧ w'.cell? ⟨gb295, 0, none⟩ = some (.slice A1_0 l1_0.length c1_0) ∧ w'.cell? ⟨gb295, 1, none⟩ = some (.int .i64 a1_1) ∧ w'.cell? ⟨gb295, 2, none⟩ = some (.int .i64 a1_2) ∧ w'.cell? ⟨gb295, 3, none⟩ = some (.string a1_3)) (ds := [7]) #[f_,f_,f_,f_,f_,f_,f_,f_] (by kernel_rfl) rfl rfl ⟨bx_ BK301.out 0, bx_ BK301.out 1, bx_ BK295.out 0, bx_ BK295.out 1, bx_ BK295.out 2, bx_ BK295.out 3⟩ (fun hHeld => ?_); refine with_tabW impl_Tell.tab2 impl_Tell.bits2 (fun HT_ HW_ => ?_)
  generalize w54.drew = w55 at HO299 BK294 BK295 BK296 BK301 HB hHeld ⊢
  refine pw_ 0 8 (b_ 1 7) rfl rfl HT_.out ?_
  refine take_ (i := 1) (N := some 9) (v := ?_) (a' := ?_) #[t_,t_,f_,f_,f_,f_,f_,f_] rfl rfl (take_ofW HT_.out HW_.out (by kernel_rfl)) (fun _ _ _ h => h) (Or.inl ⟨by rfl, ?_⟩) hHeld ?_ ?_
  rotate_left
  ·
   rintro w' ⟨s0, s1, s2, s3, s4, s5⟩
   go_simp
   with_reducible rfl
  rotate_left
  ·
   simp only [fr_]
   rfl
  refine take_ (i := 2) (N := some 10) (v := ?_) (a' := ?_) #[t_,t_,t_,f_,f_,f_,f_,f_] rfl rfl (take_ofW HT_.out HW_.out (by kernel_rfl)) (fun _ _ _ h => h) (Or.inl ⟨by rfl, ?_⟩) hHeld ?_ ?_
  rotate_left
  ·
   rintro w' ⟨s0, s1, s2, s3, s4, s5⟩
   go_simp
   with_reducible rfl
  rotate_left
  ·
   simp only [fr_]
   rfl
  refine one_ (i := 3) (N := some 11) #[t_,t_,t_,t_,f_,f_,f_,f_] rfl rfl (one_of HT_.out (by kernel_rfl)) (by decide) (fun K hK => ?_)
  refine gs_ Try.func97 #[.agg #[.slice A1_0 l1_0.length c1_0, .int .i64 a1_1, .int .i64 a1_2, .string a1_3]] ?_
  with_reducible refine (impl_copyAlarm.calls _ _ l1_0 a1_1 a1_2 a1_3 t302 t305 t306 t307 _ ?side1 ?side2 A38.out).mono ?_
  (case side1 => exact cp_ ((Kd.C_below HR1_0.out HB.out)))
  (case side2 => exact HC1_0.out)
  rintro e w56 ⟨v303, rfl, ho0, hb⟩
  refine ⟨_, rfl, ?_⟩
  replace HO299 := Aside0.mk (Kd.S_elder' (sp_ HO299.out) (Kd.R_base ho0) hb)
  have HO304 := Aside0.mk (Kd.R_lower ho0 (below_size (hs_ HB.out)))
  replace BK294 := bk2_ BK294 hb
  replace BK295 := bk2_ BK295 hb
  replace BK296 := bk2_ BK296 hb
  replace BK301 := bk2_ BK301 hb
  replace HB := st_ HB hb
  (try clear hb)
  (try clear hk)
  (try clear ho0)
  obtain ⟨Ao58, co58, eo58⟩ := Kd.R_slice HO304.out
  (first | subst eo58 | (obtain ⟨rfl, rfl⟩ := si_ eo58))
  refine hK.out _ _ ⟨bx_ BK301.out 0, bx_ BK301.out 1, bx_ BK295.out 0, bx_ BK295.out 1, bx_ BK295.out 2, bx_ BK295.out 3⟩ (fun hHeld => ?_)
  clear hK K
  refine norm_ (a' := ?_) ?_ ?_
  rotate_left
  ·
   show Act.put _ (some 11) _ = _
   simp only [fr_]
   rfl
  refine one_ (i := 4) (N := some 12) #[t_,t_,t_,t_,t_,f_,f_,f_] rfl rfl (one_of HT_.out (by kernel_rfl)) (by decide) (fun K hK => ?_)
  refine value_ (w1 := ?_) (v := ?_) (by rfl) rfl ?_ ?_
  rotate_left 2
  ·
   go_simp
   constructor
   ·
    rfl
   rfl
  refine hK.out _ _ ⟨(blk_cell (blk_alloc BK301.out _) 0).trans rfl, (blk_cell (blk_alloc BK301.out _) 1).trans rfl, (blk_cell (blk_alloc BK295.out _) 0).trans rfl, (blk_cell (blk_alloc BK295.out _) 1).trans rfl, (blk_cell (blk_alloc BK295.out _) 2).trans rfl, (blk_cell (blk_alloc BK295.out _) 3).trans rfl⟩ (fun hHeld => ?_)
  clear hK K
  refine norm_ (a' := ?_) ?_ ?_
  rotate_left
  ·
   show Act.put _ (some 12) _ = _
   simp only [fr_]
   rfl
  refine one_ (i := 5) (N := some 13) #[t_,t_,t_,t_,t_,t_,f_,f_] rfl rfl (one_of HT_.out (by kernel_rfl)) (by decide) (fun K hK => ?_)
  refine Kd.S_append_step k44 (w0 := w) w.heap.size (by rfl) (.tmp 9) (.tmp 12) 37 44 (.agg #[(.slice none 0 0), (.int .i64 0), (.int .i64 0), (.string ⟨#[]⟩)]) 56 rfl Try.underlying37 info44 rfl (by decide) (by omega) (.slice Ao48 t297.length co48) t297 (⟨t302, t305, t306, t307⟩ : S44) [.slice Ao58 t302.length co58, .int .i64 t305, .int .i64 t306, .string t307] (fun k_ => k_ ≠ gb295) (fun k_ => some k_ = (.slice Ao58 t302.length co58 : Value).ownBlock) rfl rfl ?aP (fun k_ hk_ => ((Kd.R_mono (ok' := fun k_ => ((fun k_ => k_ ≠ gb295)) k_ ∧ some k_ ≠ (.slice Ao48 t297.length co48 : Value).ownBlock) (Kd.R_types (Kd.R_apart' (HO304.out) (Kd.S_typed HO299.out) (by decide)) BK295.out (by decide)) (fun k_ hk => ⟨hk.2, hk.1.2⟩))).1 k_ hk_.symm) ?aF ?aO ?aB ?aS ?aL ?_
  (case aP => exact k44_mkM _ _ _ (⟨t302, t305, t306, t307⟩ : S44) (Kd.R_mono (Kd.R_tight rfl (Kd.R_mono (ok' := fun k_ => ((fun k_ => k_ ≠ gb295)) k_ ∧ some k_ ≠ (.slice Ao48 t297.length co48 : Value).ownBlock) (Kd.R_types (Kd.R_apart' (HO304.out) (Kd.S_typed HO299.out) (by decide)) BK295.out (by decide)) (fun k_ hk => ⟨hk.2, hk.1.2⟩))) (fun _ h_ => h_)))
  (case aB => exact (hs_ HB.out))
  (case aF => exact (fun k_ hk => Kd.freshB (g := gb295) (o := .cells #[.slice A1_0 l1_0.length c1_0, .int .i64 a1_1, .int .i64 a1_2, .string a1_3] 44 (0, 0)) (pb_ BK295.out) k_ hk))
  (case aO => exact (Kd.S_mono (sp_ HO299.out) (fun k_ hk => ⟨hk.1, fun e_ => hk.2 e_⟩)))
  (case aS => exact (below_size (hs_ HB.out)))
  (case aL => have := LMc39.out; omega)
  intro v309 w57 ho hb hg hat
  rw [← Ny308.out] at ho
  replace BK294 := Aside0.mk (blk_grown (bq_ BK294.out) hg (Kd.S_ne HO299.out BK294.out (by decide)))
  replace BK295 := Aside0.mk (blk_grown (bq_ BK295.out) hg (Kd.S_away HO299.out (fun _ hk => hk.1)))
  replace BK296 := Aside0.mk (blk_grown (bq_ BK296.out) hg (Kd.S_ne HO299.out BK296.out (by decide)))
  replace BK301 := Aside0.mk (blk_grown (bq_ BK301.out) hg (Kd.S_ne HO299.out BK301.out (by decide)))
  replace HB := Aside0.mk (hb)
  have HO310 := Aside0.mk (ho)
  clear HO299 HO304
  clear ho hb hg hat
  obtain ⟨Ao59, co59, eo59⟩ := Kd.S_slice HO310.out
  (first | subst eo59 | (obtain ⟨rfl, rfl⟩ := si_ eo59))
  refine hK.out _ _ ⟨bx_ BK301.out 0, bx_ BK301.out 1, bx_ BK295.out 0, bx_ BK295.out 1, bx_ BK295.out 2, bx_ BK295.out 3⟩ (fun hHeld => ?_)
  clear hK K
  refine norm_ (a' := ?_) ?_ ?_
  rotate_left
  ·
   show Act.put _ (some 13) _ = _
   simp only [fr_]
   rfl
  refine pw_ 6 14 (b_ 7 1) rfl rfl HT_.out ?_
  refine last_ (i := 7) (N := none) #[t_,t_,t_,t_,t_,t_,t_,t_] rfl rfl (one_of HT_.out (by kernel_rfl)) (by decide) (fun K hK => ?_)
  have hs60 : w57.cell? ⟨gb301, 0, none⟩ = some (.slice Ao48 t297.length co48) := bx_ BK301.out 0
  have hfs60 := blk_frozen BK301.out 0
  have hns60_0 := NB294_301.out
  have hns60_1 := NB295_301.out
  have hns60_2 := NB296_301.out
  have hms60_0 := NB301_294.out
  have hms60_1 := NB301_295.out
  have hms60_2 := NB301_296.out
  refine skip_ (w1 := ?_) (by rfl) rfl ?_ ?_
  rotate_left
  ·
   go_simp
   rfl
  refine hK.out _ _ ?_
  clear hK K
  refine done_ (done_of HT_.out (by kernel_rfl)) ?_
  obtain ⟨z61_0, z61_1, y61_0, y61_1⟩ := bc2_ BK301.out
  have hnb62 := NB296_295.out
  have hnc62 := NB295_296.out
  obtain ⟨z63_0, z63_1, y63_0, y63_1⟩ := bc2_ BK296.out
  try go_wp2
  refine bodyPost_ret (results_cell_row rfl _ _ gb296 39 #[.slice Ao59 y308.length co59, .bool t300] (0, 0) _ rfl (bp_ BK296.out) Try.underlying39 rfl (by kernel_rfl)) rfl ?_
  exact ⟨_, by first | rfl | (simp [errW_none, errW_some] <;> rfl) | (simp [*, errW_none, errW_some] <;> rfl), by (with_reducible repeat (first | apply Kd.S_alloc | apply Kd.S_drewN | apply Kd.S_drew)); exact Kd.S_mono (sf_ gb296 (Kd.S_far (p := ⟨gb301, 0, none⟩) (Kd.S_types (Kd.S_types HO310.out BK301.out (by decide)) BK296.out (by decide)) (fun _ hk => hk.1.2) (.slice Ao59 y308.length co59)) (fun _ hk => hk.2)) (fun _ hk => trivial), by exact hs_ HB.out⟩
 rw [if_neg c39] at H
 exact absurd H (by simp)
def spec_Hear.f (k : Nat) (l0_0 : List (S44)) (a0_1 : Bool) : Option ((List (S44)) × Bool × (List (S164)) × Int × Int × ByteArray × Int) := if a0_1 = true then (some (([] : List (S44)), false, ([] : List (S164)), 0, 0, (⟨#[]⟩ : ByteArray), 2)) else (if (l0_0.length : Int) = 0 then (some (([] : List (S44)), false, ([] : List (S164)), 0, 0, (⟨#[]⟩ : ByteArray), 0)) else (if 1 ≤ (l0_0.length : Int) then ((spec_l4All.f k (l0_0.drop 1)).bind fun t417 => (if 0 < (l0_0.length : Int) then ((spec_l4Copy.f ((rd_T44 l0_0 0).f0) ((rd_T44 l0_0 0).f1) ((rd_T44 l0_0 0).f2) ((rd_T44 l0_0 0).f3)).bind fun bt421 => (some (t417, false, bt421.1, bt421.2.1, bt421.2.2.1, bt421.2.2.2, 1))) else (none))) else (none)))
theorem spec_Hear.mono : ∀ a0 a1 k, LeO (spec_Hear.f k a0 a1) (spec_Hear.f (k + 1) a0 a1) := by
 intro a0 a1 k
 unfold spec_Hear.f
 repeat' first | (with_reducible first | exact spec_l4All.mono _ _ | exact LeO.refl _ | exact LeO.none _ | refine LeO.ite ?_ ?_ | refine LeO.bind ?_ (fun _ => ?_)) | exact spec_l4All.mono _ _
def spec_Hear.T5 : Bool × List (List Nat × List Nat) := (true, [([], []), ([0], [0]), ([1], [1]), ([2], [2]), ([3], [3]), ([], []), ([5], [5]), ([6], [6]), ([7], [7]), ([8, 3], [8]), ([4, 9, 0, 1, 2, 3, 4], [4]), ([9, 10, 0, 1, 2, 3, 4, 5, 6, 7, 8, 9, 10], [9]), ([11, 0, 1, 2, 3, 4, 5, 6, 7, 8, 9, 10, 11], [])])
def spec_Hear.B5 : List Nat := [0, 1, 3, 7, 15, 0, 32, 96, 224, 495, 1023, 2047, 4095]
theorem spec_Hear.tab5 : rtab .any (opsOf Try.f31 5) = spec_Hear.T5 := by kernel_rfl
theorem spec_Hear.bits5 : waitsOk spec_Hear.T5.2 spec_Hear.B5 = true := by kernel_rfl
theorem spec_Hear.calls (k : Nat) (A0_0 : Option Addr) (c0_0 : Nat) (l0_0 : List (S44)) (a0_1 : Bool) (r1 : List (S44)) (r2 : Bool) (r3 : List (S164)) (r4 : Int) (r5 : Int) (r6 : ByteArray) (r7 : Int) (w : World) (hr0_0 : Kd.C k44 w A0_0 l0_0.length l0_0) (hc0_0 : l0_0.length ≤ c0_0) (h : spec_Hear.f k l0_0 a0_1 = some (r1, r2, r3, r4, r5, r6, r7)) :
  Calls Try.prog 31 #[.agg #[.slice A0_0 l0_0.length c0_0, .bool a0_1]] w fun e w' => ∃ v0_ v2_ : Value, e = .returned (.tuple #[.agg #[v0_, .bool r2], .agg #[v2_, .int .i64 r4, .int .i64 r5, .string r6], .int .i64 r7]) ∧ Kd.S k44 44 w' w.heap.size (fun k_ => some k_ ≠ (v2_ : Value).ownBlock) v0_ r1 ∧ Kd.R k164 164 w' w.heap.size (fun _ => True) v2_ r3 ∧ Below w.heap.size w w' := by
 have hu39 := Try.underlying39
 have hu44 := Try.underlying44
 have HR0_0 := Aside0.mk hr0_0
 have HC0_0 := Aside0.mk hc0_0
 clear hr0_0 hc0_0
 have HB := Aside0.mk (Below.refl w.heap.size w)
 have H : (if a0_1 = true then (some (([] : List (S44)), false, ([] : List (S164)), 0, 0, (⟨#[]⟩ : ByteArray), 2)) else (if (l0_0.length : Int) = 0 then (some (([] : List (S44)), false, ([] : List (S164)), 0, 0, (⟨#[]⟩ : ByteArray), 0)) else (if 1 ≤ (l0_0.length : Int) then ((spec_l4All.f k (l0_0.drop 1)).bind fun t417 => (if 0 < (l0_0.length : Int) then ((spec_l4Copy.f ((rd_T44 l0_0 0).f0) ((rd_T44 l0_0 0).f1) ((rd_T44 l0_0 0).f2) ((rd_T44 l0_0 0).f3)).bind fun bt421 => (some (t417, false, bt421.1, bt421.2.1, bt421.2.2.1, bt421.2.2.2, 1))) else (none))) else (none)))) = some (r1, r2, r3, r4, r5, r6, r7) := h
 clear h
 by_cases c2 : a0_1 = true
 ·
  subst c2
  rw [if_pos rfl] at H
  simp only [Option.some.injEq, Prod.mk.injEq] at H
  obtain ⟨rfl, rfl, rfl, rfl, rfl, rfl, rfl⟩ := H
  go_enter Try.func31, Try.ntmps31
  go_wp2_with (first | ((with_reducible refine gd_ 1 rfl ?_); refine bv_ 1 #[.slice A0_0 l0_0.length c0_0, .bool true] 39 ?_; intro gb410 hg w3 hbox hb; have BK410 := Aside0.mk (hbox); have GW410 := Aside0.mk ((gw_ hg (hs_ HB.out))); replace HB := st_ HB hb; have GE410 := Ge_.mk GW410.out; clear hb hbox hg) | ((with_reducible refine gd_ 2 rfl ?_); refine bv_ 2 #[.slice none 0 0, .bool false] 39 ?_; intro gb411 hg w4 hbox hb; have BK411 := Aside0.mk (hbox); have GW411 := Aside0.mk ((gw_ hg (hs_ HB.out))); replace HB := st_ HB hb; have GE411 := Ge_.mk GW411.out; have NB410_411 := Ne_.mk (nl_ BK410.out hg); replace BK410 := bk2_ BK410 hb; have NB411_410 := Ne_.mk (NB410_411.out.symm); clear hb hbox hg) | ((with_reducible refine gd_ 3 rfl ?_); refine bv_ 3 #[.slice none 0 0, .int .i64 0, .int .i64 0, .string (⟨#[]⟩ : ByteArray)] 44 ?_; intro gb412 hg w5 hbox hb; have BK412 := Aside0.mk (hbox); have GW412 := Aside0.mk ((gw_ hg (hs_ HB.out))); replace HB := st_ HB hb; have GE412 := Ge_.mk GW412.out; have NB410_412 := Ne_.mk (nl_ BK410.out hg); replace BK410 := bk2_ BK410 hb; have NB412_410 := Ne_.mk (NB410_412.out.symm); have NB411_412 := Ne_.mk (nl_ BK411.out hg); replace BK411 := bk2_ BK411 hb; have NB412_411 := Ne_.mk (NB411_412.out.symm); clear hb hbox hg; have hnb6 := NB410_411.out; have hnc6 := NB411_410.out; have hnb7 := NB410_412.out; have hnc7 := NB412_410.out; obtain ⟨z8_0, z8_1, y8_0, y8_1⟩ := bc2_ BK410.out; have hnb9 := NB411_412.out; have hnc9 := NB412_411.out; obtain ⟨z10_0, z10_1, y10_0, y10_1⟩ := bc2_ BK411.out; obtain ⟨z11_0, z11_1, z11_2, z11_3, y11_0, y11_1, y11_2, y11_3⟩ := bc4_ BK412.out))
  refine bodyPost_ret (results_list (rs := [.cell 2 39, .cell 3 44, .tmp 4]) rfl (by simp) (.cell gb411 39 #[.slice none 0 0, .bool false] (0, 0) _ rfl (bp_ BK411.out) Try.underlying39 rfl (by kernel_rfl) (.cell gb412 44 #[.slice none 0 0, .int .i64 0, .int .i64 0, .string (⟨#[]⟩ : ByteArray)] (0, 0) _ rfl (bp_ BK412.out) Try.underlying44 rfl (by kernel_rfl) (.tmp .nil)))) rfl ?_
  exact ⟨_, _, by first | rfl | (simp [errW_none, errW_some] <;> rfl) | (simp [*, errW_none, errW_some] <;> rfl), by first | exact Kd.S_nil _ _ _ _ _ | exact Kd.N_nil _ _ _ _ _ | exact Kd.V_nil _ _ _ _ _ | exact Kd.Q_nil _ _ _ _ _ | exact Kd.R_nil _ _ _ _ _, by first | exact Kd.R_nil _ _ _ _ _ | exact Kd.N_nil _ _ _ _ _ | exact Kd.V_nil _ _ _ _ _ | exact Kd.Q_nil _ _ _ _ _ | exact Kd.S_nil _ _ _ _ _, by exact hs_ HB.out⟩
 replace c2 := Bool.eq_false_iff.mpr c2
 subst c2
 rw [if_neg (show ¬ (false = true) by decide)] at H
 by_cases c12 : (l0_0.length : Int) = 0
 ·
  rw [if_pos c12] at H
  have c12b0 : ((l0_0.length : Int) == 0) = true := beq_iff_eq.mpr c12
  have c12b1 : ((l0_0.length : Int) != 0) = false := bne_eq_false_iff_eq.mpr c12
  clear c12
  simp only [Option.some.injEq, Prod.mk.injEq] at H
  obtain ⟨rfl, rfl, rfl, rfl, rfl, rfl, rfl⟩ := H
  go_enter Try.func31, Try.ntmps31
  go_wp2_with (first | ((with_reducible refine gd_ 1 rfl ?_); refine bv_ 1 #[.slice A0_0 l0_0.length c0_0, .bool false] 39 ?_; intro gb410 hg w13 hbox hb; have BK410 := Aside0.mk (hbox); have GW410 := Aside0.mk ((gw_ hg (hs_ HB.out))); replace HB := st_ HB hb; have GE410 := Ge_.mk GW410.out; clear hb hbox hg) | ((with_reducible refine gd_ 2 rfl ?_); refine bv_ 2 #[.slice none 0 0, .bool false] 39 ?_; intro gb411 hg w14 hbox hb; have BK411 := Aside0.mk (hbox); have GW411 := Aside0.mk ((gw_ hg (hs_ HB.out))); replace HB := st_ HB hb; have GE411 := Ge_.mk GW411.out; have NB410_411 := Ne_.mk (nl_ BK410.out hg); replace BK410 := bk2_ BK410 hb; have NB411_410 := Ne_.mk (NB410_411.out.symm); clear hb hbox hg) | ((with_reducible refine gd_ 3 rfl ?_); refine bv_ 3 #[.slice none 0 0, .int .i64 0, .int .i64 0, .string (⟨#[]⟩ : ByteArray)] 44 ?_; intro gb412 hg w15 hbox hb; have BK412 := Aside0.mk (hbox); have GW412 := Aside0.mk ((gw_ hg (hs_ HB.out))); replace HB := st_ HB hb; have GE412 := Ge_.mk GW412.out; have NB410_412 := Ne_.mk (nl_ BK410.out hg); replace BK410 := bk2_ BK410 hb; have NB412_410 := Ne_.mk (NB410_412.out.symm); have NB411_412 := Ne_.mk (nl_ BK411.out hg); replace BK411 := bk2_ BK411 hb; have NB412_411 := Ne_.mk (NB411_412.out.symm); clear hb hbox hg; have hnb16 := NB410_411.out; have hnc16 := NB411_410.out; have hnb17 := NB410_412.out; have hnc17 := NB412_410.out; obtain ⟨z18_0, z18_1, y18_0, y18_1⟩ := bc2_ BK410.out; have hnb19 := NB411_412.out; have hnc19 := NB412_411.out; obtain ⟨z20_0, z20_1, y20_0, y20_1⟩ := bc2_ BK411.out; obtain ⟨z21_0, z21_1, z21_2, z21_3, y21_0, y21_1, y21_2, y21_3⟩ := bc4_ BK412.out))
  refine bodyPost_ret (results_list (rs := [.cell 2 39, .cell 3 44, .tmp 4]) rfl (by simp) (.cell gb411 39 #[.slice none 0 0, .bool false] (0, 0) _ rfl (bp_ BK411.out) Try.underlying39 rfl (by kernel_rfl) (.cell gb412 44 #[.slice none 0 0, .int .i64 0, .int .i64 0, .string (⟨#[]⟩ : ByteArray)] (0, 0) _ rfl (bp_ BK412.out) Try.underlying44 rfl (by kernel_rfl) (.tmp .nil)))) rfl ?_
  exact ⟨_, _, by first | rfl | (simp [errW_none, errW_some] <;> rfl) | (simp [*, errW_none, errW_some] <;> rfl), by first | exact Kd.S_nil _ _ _ _ _ | exact Kd.N_nil _ _ _ _ _ | exact Kd.V_nil _ _ _ _ _ | exact Kd.Q_nil _ _ _ _ _ | exact Kd.R_nil _ _ _ _ _, by first | exact Kd.R_nil _ _ _ _ _ | exact Kd.N_nil _ _ _ _ _ | exact Kd.V_nil _ _ _ _ _ | exact Kd.Q_nil _ _ _ _ _ | exact Kd.S_nil _ _ _ _ _, by exact hs_ HB.out⟩
 rw [if_neg c12] at H
 have c12b0 : ((l0_0.length : Int) == 0) = false := beq_eq_false_iff_ne.mpr c12
 have c12b1 : ((l0_0.length : Int) != 0) = true := bne_iff_ne.mpr c12
 have c12b2 : ¬ (l0_0 = []) := fun h_ => c12 (by rw [h_]; rfl)
 by_cases c22 : 1 ≤ (l0_0.length : Int)
 ·
  rw [if_pos c22] at H
  have c22b0 := eq_true c22
  have c22b1 := decide_eq_true c22
  clear c22
  obtain ⟨y413, hy413⟩ : ∃ y_ : List (S44), y_ = (l0_0.drop 1) := ⟨_, rfl⟩
  replace H : ((spec_l4All.f k y413).bind fun t417 => (if 0 < (l0_0.length : Int) then ((spec_l4Copy.f ((rd_T44 l0_0 0).f0) ((rd_T44 l0_0 0).f1) ((rd_T44 l0_0 0).f2) ((rd_T44 l0_0 0).f3)).bind fun bt421 => (some (t417, false, bt421.1, bt421.2.1, bt421.2.2.1, bt421.2.2.2, 1))) else (none))) = some (r1, r2, r3, r4, r5, r6, r7) := by first | (rw [hy413]; with_reducible exact H) | (have H2_ := (Option.bind_some _ _).symm.trans H; rw [hy413]; with_reducible exact H2_) | (have H2_ := (Option.bind_some _ _).symm.trans H; with_reducible exact H2_) | with_reducible exact H | (rw [hy413]; exact H) | exact H
  have Ny413 := Aside0.mk hy413
  clear hy413
  replace H := Option.bind_eq_some_iff.mp H
  obtain ⟨t417, A230, H⟩ := H
  have A23 := Aside0.mk A230
  clear A230
  by_cases c24 : 0 < (l0_0.length : Int)
  ·
   rw [if_pos c24] at H
   have c24b0 := decide_eq_true c24
   have c24b1 : decide (0 < l0_0.length) = true := decide_eq_true (by omega)
   clear c24
   replace H := Option.bind_eq_some_iff.mp H
   obtain ⟨⟨t421, t424, t425, t426⟩, A250, H⟩ := H
   have A25 := Aside0.mk A250
   clear A250
   simp only [Option.some.injEq, Prod.mk.injEq] at H
   obtain ⟨rfl, rfl, rfl, rfl, rfl, rfl, rfl⟩ := H
   go_enter Try.func31, Try.ntmps31
   try go_wp2_with (first | ((with_reducible refine gd_ 1 rfl ?_); refine bv_ 1 #[.slice A0_0 l0_0.length c0_0, .bool false] 39 ?_; intro gb410 hg w26 hbox hb; have BK410 := Aside0.mk (hbox); have GW410 := Aside0.mk ((gw_ hg (hs_ HB.out))); replace HB := st_ HB hb; have GE410 := Ge_.mk GW410.out; clear hb hbox hg) | ((with_reducible refine gd_ 2 rfl ?_); refine bv_ 2 #[.slice none 0 0, .bool false] 39 ?_; intro gb411 hg w27 hbox hb; have BK411 := Aside0.mk (hbox); have GW411 := Aside0.mk ((gw_ hg (hs_ HB.out))); replace HB := st_ HB hb; have GE411 := Ge_.mk GW411.out; have NB410_411 := Ne_.mk (nl_ BK410.out hg); replace BK410 := bk2_ BK410 hb; have NB411_410 := Ne_.mk (NB410_411.out.symm); clear hb hbox hg) | ((with_reducible refine gd_ 3 rfl ?_); refine bv_ 3 #[.slice none 0 0, .int .i64 0, .int .i64 0, .string (⟨#[]⟩ : ByteArray)] 44 ?_; intro gb412 hg w28 hbox hb; have BK412 := Aside0.mk (hbox); have GW412 := Aside0.mk ((gw_ hg (hs_ HB.out))); replace HB := st_ HB hb; have GE412 := Ge_.mk GW412.out; have NB410_412 := Ne_.mk (nl_ BK410.out hg); replace BK410 := bk2_ BK410 hb; have NB412_410 := Ne_.mk (NB410_412.out.symm); have NB411_412 := Ne_.mk (nl_ BK411.out hg); replace BK411 := bk2_ BK411 hb; have NB412_411 := Ne_.mk (NB411_412.out.symm); clear hb hbox hg; have hnb29 := NB410_411.out; have hnc29 := NB411_410.out; have hnb30 := NB410_412.out; have hnc30 := NB412_410.out; obtain ⟨z31_0, z31_1, y31_0, y31_1⟩ := bc2_ BK410.out))
   replace BK410 := Aside0.mk (blk_drew BK410.out)
   replace BK411 := Aside0.mk (blk_drew BK411.out)
   replace BK412 := Aside0.mk (blk_drew BK412.out)
   replace HB := Aside0.mk (bd_ HB.out)
   have q33 : (1 : Int) ≤ ((l0_0.length : Int) : Int) := of_decide_eq_true (by with_reducible assumption)
   obtain ⟨i033, hi033, _, hsz33, _⟩ := info_parts info44
   have hroom33 : l0_0.length ≤ c0_0 := HC0_0.out
   have hC33 : Kd.C k44 _ A0_0 l0_0.length l0_0 := HR0_0.out
   have hcut33 := cut_from (P := Try.prog) 37 44 .i64 Try.underlying37 hi033 4 hsz33 A0_0 l0_0.length c0_0 1 (by omega) q33
   have hr33 := Kd.C_drop (m := (1 : Int).toNat) (c := c0_0) hC33 (by omega) hroom33
   obtain ⟨A33, hA33⟩ : ∃ A1, A1 = (if c0_0 = (1 : Int).toNat then A0_0 else (A0_0 : Option Addr).map (·.add ((1 : Int).toNat * 4))) := ⟨_, rfl⟩
   obtain ⟨c33, hc33⟩ : ∃ c1, c1 = c0_0 - (1 : Int).toNat := ⟨_, rfl⟩
   have hy33 : y413.length = l0_0.length - (1 : Int).toNat := (by rw [Ny413.out, List.length_drop] <;> omega)
   rw [show (l0_0).drop (1 : Int).toNat = y413 from Ny413.out.symm] at hr33
   replace hr33 : Kd.C k44 _ A33 y413.length y413 := (by rw [hA33]; exact hr33)
   rw [← hy33, ← hA33, ← hc33] at hcut33
   have HR416 := Aside0.mk hr33
   have HC416 := Aside0.mk (show y413.length ≤ c33 from by rw [hy33, hc33]; exact Nat.sub_le_sub_right hroom33 _)
   clear hr33 hC33 hroom33 hi033 hsz33 hc33
   have KY33 := Aside0.mk hy33
   have KA33 := Aside0.mk hA33
   clear hy33 hA33
   replace q33 := eq_true q33
   have p420 : 0 ≤ (0 : Int) := (by omega)
   have q420 : 0 < (l0_0.length : Int) := of_decide_eq_true (by with_reducible assumption)
   obtain ⟨ad420, A420_0, c420_0, e420, hx420_0, hx420_1, hx420_2, hx420_3, hl420_0, hi420_0⟩ := at_T44 HR0_0.out 0 p420 q420
   have hw420_3 := hx420_3
   (try rw [show ((0 : Int)).toNat = 0 from rfl] at hw420_3)
   (try rw [show 0 * 4 = 0 from rfl] at hw420_3)
   (try rw [Addr.add_zero'] at hw420_3)
   have hw420_2 := hx420_2
   (try rw [show ((0 : Int)).toNat = 0 from rfl] at hw420_2)
   (try rw [show 0 * 4 = 0 from rfl] at hw420_2)
   (try rw [Addr.add_zero'] at hw420_2)
   have hw420_1 := hx420_1
   (try rw [show ((0 : Int)).toNat = 0 from rfl] at hw420_1)
   (try rw [show 0 * 4 = 0 from rfl] at hw420_1)
   (try rw [Addr.add_zero'] at hw420_1)
   have hw420_0 := hx420_0
   (try rw [show ((0 : Int)).toNat = 0 from rfl] at hw420_0)
   (try rw [show 0 * 4 = 0 from rfl] at hw420_0)
   (try rw [Addr.add_zero'] at hw420_0)
   cases e420
   have qi420 : (0 < l0_0.length) = True := eq_true (by omega)
   (try rw [show ((0 : Int)).toNat = 0 from rfl] at hx420_0)
   (try rw [show 0 * 4 = 0 from rfl] at hx420_0)
   (try rw [Addr.add_zero'] at hx420_0)
   (try rw [show ((0 : Int)).toNat = 0 from rfl] at hx420_1)
   (try rw [show 0 * 4 = 0 from rfl] at hx420_1)
   (try rw [Addr.add_zero'] at hx420_1)
   (try rw [show ((0 : Int)).toNat = 0 from rfl] at hx420_2)
   (try rw [show 0 * 4 = 0 from rfl] at hx420_2)
   (try rw [Addr.add_zero'] at hx420_2)
   (try rw [show ((0 : Int)).toNat = 0 from rfl] at hx420_3)
   (try rw [show 0 * 4 = 0 from rfl] at hx420_3)
   (try rw [Addr.add_zero'] at hx420_3)
   replace hx420_0 := cl_ HB.out hx420_0
   replace hx420_1 := cl_ HB.out hx420_1
   replace hx420_2 := cl_ HB.out hx420_2
   replace hx420_3 := cl_ HB.out hx420_3
   have HR420_0 := Aside0.mk hi420_0
   have HC420_0 := Aside0.mk hl420_0
   clear hi420_0 hl420_0
   replace p420 := eq_true p420
   replace q420 := eq_true q420
   refine start_ (n := 13) (S := fun w' => w'.cell? ⟨gb410, 0, none⟩ = some (.slice (some ad420) l0_0.length c0_0) ∧ w'.cell? ⟨gb410, 1, none⟩ = some (.bool false) ∧ w'.cell? ad420 = some (.slice A420_0 ((rd_T44 l0_0 0).f0).length c420_0) ∧ w'.cell? ⟨ad420.block, ad420.off + 1, none⟩ = some (.int .i64 ((rd_T44 l0_0 0).f1)) ∧ w'.cell? ⟨ad420.block, ad420.off + 2, none⟩ = some (.int .i64 ((rd_T44 l0_0 0).f2)) ∧ w'.cell? ⟨ad420.block, ad420.off + 3, none⟩ = some (.string ((rd_T44 l0_0 0).f3))) (ds := []) #[f_,f_,f_,f_,f_,f_,f_,f_,f_,f_,f_,f_,f_] (by kernel_rfl) rfl rfl ⟨bx_ BK410.out 0, bx_ BK410.out 1, ((HB.out.cell (World.block_lt_of_cell? w _ hw420_0)).trans hw420_0), ((HB.out.cell (World.block_lt_of_cell? w _ hw420_1)).trans hw420_1), ((HB.out.cell (World.block_lt_of_cell? w _ hw420_2)).trans hw420_2), ((HB.out.cell (World.block_lt_of_cell? w _ hw420_3)).trans hw420_3)⟩ (fun hHeld => ?_); refine with_tabW spec_Hear.tab5 spec_Hear.bits5 (fun HT_ HW_ => ?_)
   generalize w28.drew = w32 at BK410 BK411 BK412 HB HR416 HR420_0 hx420_0 hx420_1 hx420_2 hx420_3 hHeld ⊢
   refine pw_ 0 15 (b_ 1 12) rfl rfl HT_.out ?_
   refine pw_ 5 20 #[t_,f_,f_,f_,f_,t_,f_,f_,f_,f_,f_,f_,f_] rfl rfl HT_.out ?_
   refine take_ (i := 1) (N := some 16) (v := ?_) (a' := ?_) #[t_,t_,f_,f_,f_,t_,f_,f_,f_,f_,f_,f_,f_] rfl rfl (take_ofW HT_.out HW_.out (by kernel_rfl)) (fun _ _ _ h => h) (Or.inl ⟨by rfl, ?_⟩) hHeld ?_ ?_
   rotate_left
   ·
    rintro w' ⟨s0, s1, s2, s3, s4, s5⟩
    go_simp
    with_reducible rfl
   rotate_left
   ·
    simp only [fr_]
    rfl
   refine pw_ 2 17 #[t_,t_,t_,f_,f_,t_,f_,f_,f_,f_,f_,f_,f_] rfl rfl HT_.out ?_
   refine take_ (i := 6) (N := some 21) (v := ?_) (a' := ?_) #[t_,t_,t_,f_,f_,t_,t_,f_,f_,f_,f_,f_,f_] rfl rfl (take_ofW HT_.out HW_.out (by kernel_rfl)) (fun _ _ _ h => h) (Or.inl ⟨by rfl, ?_⟩) hHeld ?_ ?_
   rotate_left
   ·
    rintro w' ⟨s0, s1, s2, s3, s4, s5⟩
    go_simp
    with_reducible rfl
   rotate_left
   ·
    simp only [fr_]
    rfl
   refine pw_ 7 22 #[t_,t_,t_,f_,f_,t_,t_,t_,f_,f_,f_,f_,f_] rfl rfl HT_.out ?_
   refine take_ (i := 8) (N := some 23) (v := ?_) (a' := ?_) #[t_,t_,t_,f_,f_,t_,t_,t_,t_,f_,f_,f_,f_] rfl rfl (take_ofW HT_.out HW_.out (by kernel_rfl)) (fun _ _ _ h => h) (Or.inl ⟨by rfl, ?_⟩) hHeld ?_ ?_
   rotate_left
   ·
    rintro w' ⟨s0, s1, s2, s3, s4, s5⟩
    go_simp
    with_reducible rfl
   rotate_left
   ·
    simp only [fr_]
    rfl
   refine one_ (i := 3) (N := some 18) #[t_,t_,t_,t_,f_,t_,t_,t_,t_,f_,f_,f_,f_] rfl rfl (one_of HT_.out (by kernel_rfl)) (by decide) (fun K hK => ?_)
   refine gs_ Try.func100 #[.slice A33 y413.length c33] ?_
   with_reducible refine (spec_l4All.calls k _ _ y413 t417 _ ?side1 ?side2 A23.out).mono ?_
   (case side1 => exact cp_ ((Kd.C_below HR416.out HB.out)))
   (case side2 => exact HC416.out)
   rintro e w34 ⟨v418, rfl, ho0, hb⟩
   refine ⟨_, rfl, ?_⟩
   have HO419 := Aside0.mk (Kd.S_lower (Kd.S_newB ho0 (g := gb412) (o := .cells #[.slice none 0 0, .int .i64 0, .int .i64 0, .string (⟨#[]⟩ : ByteArray)] 44 (0, 0)) (pb_ BK412.out)) (below_size (hs_ HB.out)))
   replace BK410 := bk2_ BK410 hb
   replace BK411 := bk2_ BK411 hb
   replace BK412 := bk2_ BK412 hb
   replace HB := st_ HB hb
   (try clear hb)
   (try clear hk)
   (try clear ho0)
   obtain ⟨Ao35, co35, eo35⟩ := Kd.S_slice HO419.out
   (first | subst eo35 | (obtain ⟨rfl, rfl⟩ := si_ eo35))
   refine hK.out _ _ ⟨bx_ BK410.out 0, bx_ BK410.out 1, ((HB.out.cell (World.block_lt_of_cell? w _ hw420_0)).trans hw420_0), ((HB.out.cell (World.block_lt_of_cell? w _ hw420_1)).trans hw420_1), ((HB.out.cell (World.block_lt_of_cell? w _ hw420_2)).trans hw420_2), ((HB.out.cell (World.block_lt_of_cell? w _ hw420_3)).trans hw420_3)⟩ (fun hHeld => ?_)
   clear hK K
   refine norm_ (a' := ?_) ?_ ?_
   rotate_left
   ·
    show Act.put _ (some 18) _ = _
    simp only [fr_]
    rfl
   refine pw_ 4 19 (b_ 9 4) rfl rfl HT_.out ?_
   refine one_ (i := 9) (N := some 24) #[t_,t_,t_,t_,t_,t_,t_,t_,t_,t_,f_,f_,f_] rfl rfl (one_of HT_.out (by kernel_rfl)) (by decide) (fun K hK => ?_)
   refine gs_ Try.func94 #[.agg #[.slice A420_0 ((rd_T44 l0_0 0).f0).length c420_0, .int .i64 ((rd_T44 l0_0 0).f1), .int .i64 ((rd_T44 l0_0 0).f2), .string ((rd_T44 l0_0 0).f3)]] ?_
   with_reducible refine (spec_l4Copy.calls _ _ ((rd_T44 l0_0 0).f0) ((rd_T44 l0_0 0).f1) ((rd_T44 l0_0 0).f2) ((rd_T44 l0_0 0).f3) t421 t424 t425 t426 _ ?side1 ?side2 A25.out).mono ?_
   (case side1 => exact cp_ ((Kd.C_below HR420_0.out HB.out)))
   (case side2 => exact HC420_0.out)
   rintro e w36 ⟨v422, rfl, ho0, hb⟩
   refine ⟨_, rfl, ?_⟩
   replace HO419 := Aside0.mk (Kd.S_elder' (sp_ HO419.out) (Kd.R_base ho0) hb)
   have HO423 := Aside0.mk (Kd.R_lower ho0 (below_size (hs_ HB.out)))
   replace BK410 := bk2_ BK410 hb
   replace BK411 := bk2_ BK411 hb
   replace BK412 := bk2_ BK412 hb
   replace HB := st_ HB hb
   (try clear hb)
   (try clear hk)
   (try clear ho0)
   obtain ⟨Ao39, co39, eo39⟩ := Kd.R_slice HO423.out
   (first | subst eo39 | (obtain ⟨rfl, rfl⟩ := si_ eo39))
   refine hK.out _ _ ⟨bx_ BK410.out 0, bx_ BK410.out 1, ((HB.out.cell (World.block_lt_of_cell? w _ hw420_0)).trans hw420_0), ((HB.out.cell (World.block_lt_of_cell? w _ hw420_1)).trans hw420_1), ((HB.out.cell (World.block_lt_of_cell? w _ hw420_2)).trans hw420_2), ((HB.out.cell (World.block_lt_of_cell? w _ hw420_3)).trans hw420_3)⟩ (fun hHeld => ?_)
   clear hK K
   refine norm_ (a' := ?_) ?_ ?_
   rotate_left
   ·
    show Act.put _ (some 24) _ = _
    simp only [fr_]
    rfl
   refine one_ (i := 10) (N := none) #[t_,t_,t_,t_,t_,t_,t_,t_,t_,t_,t_,f_,f_] rfl rfl (one_of HT_.out (by kernel_rfl)) (by decide) (fun K hK => ?_)
   have hs37 : w36.cell? ⟨gb411, 0, none⟩ = some (.slice none 0 0) := bx_ BK411.out 0
   have hfs37 := blk_frozen BK411.out 0
   have hns37_0 := NB410_411.out
   have hns37_2 := NB412_411.out
   have hms37_0 := NB411_410.out
   have hms37_2 := NB411_412.out
   have hs38 : w36.cell? ⟨gb411, 1, none⟩ = some (.bool false) := bx_ BK411.out 1
   have hfs38 := blk_frozen BK411.out 1
   have hns38_0 := NB410_411.out
   have hns38_2 := NB412_411.out
   have hms38_0 := NB411_410.out
   have hms38_2 := NB411_412.out
   refine skip_ (w1 := ?_) (by rfl) rfl ?_ ?_
   rotate_left
   ·
    go_simp
    rfl
   refine hK.out _ _ ⟨(cg_ (hHeld.1)), (cg_ (hHeld.2.1)), (ce_ hw420_0 GW411.out ((ce_ hw420_0 GW411.out (hHeld.2.2.1)))), (ce_ hw420_1 GW411.out ((ce_ hw420_1 GW411.out (hHeld.2.2.2.1)))), (ce_ hw420_2 GW411.out ((ce_ hw420_2 GW411.out (hHeld.2.2.2.2.1)))), (ce_ hw420_3 GW411.out ((ce_ hw420_3 GW411.out (hHeld.2.2.2.2.2))))⟩ (fun hHeld => ?_)
   clear hK K
   refine one_ (i := 11) (N := none) #[t_,t_,t_,t_,t_,t_,t_,t_,t_,t_,t_,t_,f_] rfl rfl (one_of HT_.out (by kernel_rfl)) (by decide) (fun K hK => ?_)
   have hs40 : w36.cell? ⟨gb412, 0, none⟩ = some (.slice none 0 0) := bx_ BK412.out 0
   have hfs40 := blk_frozen BK412.out 0
   have hns40_0 := NB410_412.out
   have hns40_1 := NB411_412.out
   have hms40_0 := NB412_410.out
   have hms40_1 := NB412_411.out
   have hs41 : w36.cell? ⟨gb412, 1, none⟩ = some (.int .i64 0) := bx_ BK412.out 1
   have hfs41 := blk_frozen BK412.out 1
   have hns41_0 := NB410_412.out
   have hns41_1 := NB411_412.out
   have hms41_0 := NB412_410.out
   have hms41_1 := NB412_411.out
   have hs42 : w36.cell? ⟨gb412, 2, none⟩ = some (.int .i64 0) := bx_ BK412.out 2
   have hfs42 := blk_frozen BK412.out 2
   have hns42_0 := NB410_412.out
   have hns42_1 := NB411_412.out
   have hms42_0 := NB412_410.out
   have hms42_1 := NB412_411.out
   have hs43 : w36.cell? ⟨gb412, 3, none⟩ = some (.string (⟨#[]⟩ : ByteArray)) := bx_ BK412.out 3
   have hfs43 := blk_frozen BK412.out 3
   have hns43_0 := NB410_412.out
   have hns43_1 := NB411_412.out
   have hms43_0 := NB412_410.out
   have hms43_1 := NB412_411.out
   refine skip_ (w1 := ?_) (by rfl) rfl ?_ ?_
   rotate_left
   ·
    go_simp
    rfl
   refine hK.out _ _ ⟨(cg_ (hHeld.1)), (cg_ (hHeld.2.1)), (ce_ hw420_0 GW412.out ((ce_ hw420_0 GW412.out ((ce_ hw420_0 GW412.out ((ce_ hw420_0 GW412.out (hHeld.2.2.1)))))))), (ce_ hw420_1 GW412.out ((ce_ hw420_1 GW412.out ((ce_ hw420_1 GW412.out ((ce_ hw420_1 GW412.out (hHeld.2.2.2.1)))))))), (ce_ hw420_2 GW412.out ((ce_ hw420_2 GW412.out ((ce_ hw420_2 GW412.out ((ce_ hw420_2 GW412.out (hHeld.2.2.2.2.1)))))))), (ce_ hw420_3 GW412.out ((ce_ hw420_3 GW412.out ((ce_ hw420_3 GW412.out ((ce_ hw420_3 GW412.out (hHeld.2.2.2.2.2))))))))⟩ (fun hHeld => ?_)
   clear hK K
   refine pw_ 12 4 (b_ 13 0) rfl rfl HT_.out ?_
   refine done_ (done_of HT_.out (by kernel_rfl)) ?_
   try go_wp2
   refine bodyPost_ret (results_list (rs := [.cell 2 39, .cell 3 44, .tmp 4]) rfl (by simp) (.cell gb411 39 #[.slice Ao35 t417.length co35, .bool false] (0, 0) _ rfl (bp_ BK411.out) Try.underlying39 rfl (by kernel_rfl) (.cell gb412 44 #[.slice Ao39 t421.length co39, .int .i64 t424, .int .i64 t425, .string t426] (0, 0) _ rfl (bp_ BK412.out) Try.underlying44 rfl (by kernel_rfl) (.tmp .nil)))) rfl ?_
   exact ⟨_, _, by first | rfl | (simp [errW_none, errW_some] <;> rfl) | (simp [*, errW_none, errW_some] <;> rfl), by (with_reducible repeat (first | apply Kd.S_alloc | apply Kd.S_drewN | apply Kd.S_drew)); exact Kd.S_mono (sf_ gb412 (Kd.S_far (p := ⟨gb411, 1, none⟩) (Kd.S_far (p := ⟨gb411, 0, none⟩) (Kd.S_mono (Kd.S_types HO419.out BK411.out (by decide)) (fun k_ hk => (⟨hk, hk.1.1.2⟩ : _ ∧ k_ ≠ gb412))) (fun _ hk => hk.1.2) (.slice Ao35 t417.length co35)) (fun _ hk => hk.1.2) (.bool false)) (fun _ hk => hk.2)) (fun _ hk => hk.1.1.2), by (with_reducible repeat (first | apply Kd.R_alloc | apply Kd.R_drewN | apply Kd.R_drew)); exact Kd.R_mono (rf_ gb412 (Kd.R_far (p := ⟨gb411, 1, none⟩) (Kd.R_far (p := ⟨gb411, 0, none⟩) (Kd.R_types (Kd.R_types HO423.out BK411.out (by decide)) BK412.out (by decide)) (fun _ hk => hk.1.2) (.slice Ao35 t417.length co35)) (fun _ hk => hk.1.2) (.bool false)) (fun _ hk => hk.2)) (fun _ hk => trivial), by exact hs_ HB.out⟩
  rw [if_neg c24] at H
  exact absurd H (by simp)
 rw [if_neg c22] at H
 exact absurd H (by simp)
def impl_Hear.f (k : Nat) (l0_0 : List (S44)) (a0_1 : Bool) : Option ((List (S44)) × Bool × (List (S164)) × Int × Int × ByteArray × Int) := if a0_1 = true then (some (([] : List (S44)), false, ([] : List (S164)), 0, 0, (⟨#[]⟩ : ByteArray), 2)) else (if (l0_0.length : Int) = 0 then ((impl_copySub.f k l0_0 a0_1).bind fun bt430 => (some (bt430.1, bt430.2, ([] : List (S164)), 0, 0, (⟨#[]⟩ : ByteArray), 0))) else (if 1 ≤ (l0_0.length : Int) then ((impl_copyAlarms.f k (l0_0.drop 1)).bind fun t438 => (if 0 < (l0_0.length : Int) then ((impl_copyAlarm.f ((rd_T44 l0_0 0).f0) ((rd_T44 l0_0 0).f1) ((rd_T44 l0_0 0).f2) ((rd_T44 l0_0 0).f3)).bind fun bt442 => (some (t438, false, bt442.1, bt442.2.1, bt442.2.2.1, bt442.2.2.2, 1))) else (none))) else (none)))
theorem impl_Hear.mono : ∀ a0 a1 k, LeO (impl_Hear.f k a0 a1) (impl_Hear.f (k + 1) a0 a1) := by
 intro a0 a1 k
 unfold impl_Hear.f
 repeat' first | (with_reducible first | exact impl_copyAlarms.mono _ _ | exact impl_copySub.mono _ _ _ | exact LeO.refl _ | exact LeO.none _ | refine LeO.ite ?_ ?_ | refine LeO.bind ?_ (fun _ => ?_)) | exact impl_copyAlarms.mono _ _ | exact impl_copySub.mono _ _ _
def impl_Hear.T5 : Bool × List (List Nat × List Nat) := (true, [([], []), ([0], [0]), ([1], [1]), ([2], [2]), ([3], [3]), ([], []), ([5], [5]), ([6], [6]), ([7], [7]), ([8, 3], [8]), ([4, 9, 0, 1, 2, 3, 4], [4]), ([9, 10, 0, 1, 2, 3, 4, 5, 6, 7, 8, 9, 10], [9]), ([11, 0, 1, 2, 3, 4, 5, 6, 7, 8, 9, 10, 11], [])])
def impl_Hear.B5 : List Nat := [0, 1, 3, 7, 15, 0, 32, 96, 224, 495, 1023, 2047, 4095]
theorem impl_Hear.tab5 : rtab .any (opsOf Try.f32 5) = impl_Hear.T5 := by kernel_rfl
theorem impl_Hear.bits5 : waitsOk impl_Hear.T5.2 impl_Hear.B5 = true := by kernel_rfl
theorem impl_Hear.calls (k : Nat) (A0_0 : Option Addr) (c0_0 : Nat) (l0_0 : List (S44)) (a0_1 : Bool) (r1 : List (S44)) (r2 : Bool) (r3 : List (S164)) (r4 : Int) (r5 : Int) (r6 : ByteArray) (r7 : Int) (w : World) (hr0_0 : Kd.C k44 w A0_0 l0_0.length l0_0) (hc0_0 : l0_0.length ≤ c0_0) (h : impl_Hear.f k l0_0 a0_1 = some (r1, r2, r3, r4, r5, r6, r7)) :
  Calls Try.prog 32 #[.agg #[.slice A0_0 l0_0.length c0_0, .bool a0_1]] w fun e w' => ∃ v0_ v2_ : Value, e = .returned (.tuple #[.agg #[v0_, .bool r2], .agg #[v2_, .int .i64 r4, .int .i64 r5, .string r6], .int .i64 r7]) ∧ Kd.S k44 44 w' w.heap.size (fun k_ => some k_ ≠ (v2_ : Value).ownBlock) v0_ r1 ∧ Kd.R k164 164 w' w.heap.size (fun _ => True) v2_ r3 ∧ Below w.heap.size w w' := by
 have hu39 := Try.underlying39
 have hu44 := Try.underlying44
 have HR0_0 := Aside0.mk hr0_0
 have HC0_0 := Aside0.mk hc0_0
 clear hr0_0 hc0_0
 have HB := Aside0.mk (Below.refl w.heap.size w)
 have H : (if a0_1 = true then (some (([] : List (S44)), false, ([] : List (S164)), 0, 0, (⟨#[]⟩ : ByteArray), 2)) else (if (l0_0.length : Int) = 0 then ((impl_copySub.f k l0_0 a0_1).bind fun bt430 => (some (bt430.1, bt430.2, ([] : List (S164)), 0, 0, (⟨#[]⟩ : ByteArray), 0))) else (if 1 ≤ (l0_0.length : Int) then ((impl_copyAlarms.f k (l0_0.drop 1)).bind fun t438 => (if 0 < (l0_0.length : Int) then ((impl_copyAlarm.f ((rd_T44 l0_0 0).f0) ((rd_T44 l0_0 0).f1) ((rd_T44 l0_0 0).f2) ((rd_T44 l0_0 0).f3)).bind fun bt442 => (some (t438, false, bt442.1, bt442.2.1, bt442.2.2.1, bt442.2.2.2, 1))) else (none))) else (none)))) = some (r1, r2, r3, r4, r5, r6, r7) := h
 clear h
 by_cases c2 : a0_1 = true
 ·
  subst c2
  rw [if_pos rfl] at H
  simp only [Option.some.injEq, Prod.mk.injEq] at H
  obtain ⟨rfl, rfl, rfl, rfl, rfl, rfl, rfl⟩ := H
  go_enter Try.func32, Try.ntmps32
  go_wp2_with (first | ((with_reducible refine gd_ 1 rfl ?_); refine bv_ 1 #[.slice A0_0 l0_0.length c0_0, .bool true] 39 ?_; intro gb427 hg w3 hbox hb; have BK427 := Aside0.mk (hbox); have GW427 := Aside0.mk ((gw_ hg (hs_ HB.out))); replace HB := st_ HB hb; have GE427 := Ge_.mk GW427.out; clear hb hbox hg) | ((with_reducible refine gd_ 2 rfl ?_); refine bv_ 2 #[.slice none 0 0, .bool false] 39 ?_; intro gb428 hg w4 hbox hb; have BK428 := Aside0.mk (hbox); have GW428 := Aside0.mk ((gw_ hg (hs_ HB.out))); replace HB := st_ HB hb; have GE428 := Ge_.mk GW428.out; have NB427_428 := Ne_.mk (nl_ BK427.out hg); replace BK427 := bk2_ BK427 hb; have NB428_427 := Ne_.mk (NB427_428.out.symm); clear hb hbox hg) | ((with_reducible refine gd_ 3 rfl ?_); refine bv_ 3 #[.slice none 0 0, .int .i64 0, .int .i64 0, .string (⟨#[]⟩ : ByteArray)] 44 ?_; intro gb429 hg w5 hbox hb; have BK429 := Aside0.mk (hbox); have GW429 := Aside0.mk ((gw_ hg (hs_ HB.out))); replace HB := st_ HB hb; have GE429 := Ge_.mk GW429.out; have NB427_429 := Ne_.mk (nl_ BK427.out hg); replace BK427 := bk2_ BK427 hb; have NB429_427 := Ne_.mk (NB427_429.out.symm); have NB428_429 := Ne_.mk (nl_ BK428.out hg); replace BK428 := bk2_ BK428 hb; have NB429_428 := Ne_.mk (NB428_429.out.symm); clear hb hbox hg; have hnb6 := NB427_428.out; have hnc6 := NB428_427.out; have hnb7 := NB427_429.out; have hnc7 := NB429_427.out; obtain ⟨z8_0, z8_1, y8_0, y8_1⟩ := bc2_ BK427.out; have hnb9 := NB428_429.out; have hnc9 := NB429_428.out; obtain ⟨z10_0, z10_1, y10_0, y10_1⟩ := bc2_ BK428.out; obtain ⟨z11_0, z11_1, z11_2, z11_3, y11_0, y11_1, y11_2, y11_3⟩ := bc4_ BK429.out))
  refine bodyPost_ret (results_list (rs := [.cell 2 39, .cell 3 44, .tmp 4]) rfl (by simp) (.cell gb428 39 #[.slice none 0 0, .bool false] (0, 0) _ rfl (bp_ BK428.out) Try.underlying39 rfl (by kernel_rfl) (.cell gb429 44 #[.slice none 0 0, .int .i64 0, .int .i64 0, .string (⟨#[]⟩ : ByteArray)] (0, 0) _ rfl (bp_ BK429.out) Try.underlying44 rfl (by kernel_rfl) (.tmp .nil)))) rfl ?_
  exact ⟨_, _, by first | rfl | (simp [errW_none, errW_some] <;> rfl) | (simp [*, errW_none, errW_some] <;> rfl), by first | exact Kd.S_nil _ _ _ _ _ | exact Kd.N_nil _ _ _ _ _ | exact Kd.V_nil _ _ _ _ _ | exact Kd.Q_nil _ _ _ _ _ | exact Kd.R_nil _ _ _ _ _, by first | exact Kd.R_nil _ _ _ _ _ | exact Kd.N_nil _ _ _ _ _ | exact Kd.V_nil _ _ _ _ _ | exact Kd.Q_nil _ _ _ _ _ | exact Kd.S_nil _ _ _ _ _, by exact hs_ HB.out⟩
 replace c2 := Bool.eq_false_iff.mpr c2
 subst c2
 rw [if_neg (show ¬ (false = true) by decide)] at H
 by_cases c12 : (l0_0.length : Int) = 0
 ·
  rw [if_pos c12] at H
  have c12b0 : ((l0_0.length : Int) == 0) = true := beq_iff_eq.mpr c12
  have c12b1 : ((l0_0.length : Int) != 0) = false := bne_eq_false_iff_eq.mpr c12
  clear c12
  replace H := Option.bind_eq_some_iff.mp H
  obtain ⟨⟨t430, t433⟩, A130, H⟩ := H
  have A13 := Aside0.mk A130
  clear A130
  simp only [Option.some.injEq, Prod.mk.injEq] at H
  obtain ⟨rfl, rfl, rfl, rfl, rfl, rfl, rfl⟩ := H
  go_enter Try.func32, Try.ntmps32
  go_wp2_with (first | ((with_reducible refine gd_ 1 rfl ?_); refine bv_ 1 #[.slice A0_0 l0_0.length c0_0, .bool false] 39 ?_; intro gb427 hg w14 hbox hb; have BK427 := Aside0.mk (hbox); have GW427 := Aside0.mk ((gw_ hg (hs_ HB.out))); replace HB := st_ HB hb; have GE427 := Ge_.mk GW427.out; clear hb hbox hg) | ((with_reducible refine gd_ 2 rfl ?_); refine bv_ 2 #[.slice none 0 0, .bool false] 39 ?_; intro gb428 hg w15 hbox hb; have BK428 := Aside0.mk (hbox); have GW428 := Aside0.mk ((gw_ hg (hs_ HB.out))); replace HB := st_ HB hb; have GE428 := Ge_.mk GW428.out; have NB427_428 := Ne_.mk (nl_ BK427.out hg); replace BK427 := bk2_ BK427 hb; have NB428_427 := Ne_.mk (NB427_428.out.symm); clear hb hbox hg) | ((with_reducible refine gd_ 3 rfl ?_); refine bv_ 3 #[.slice none 0 0, .int .i64 0, .int .i64 0, .string (⟨#[]⟩ : ByteArray)] 44 ?_; intro gb429 hg w16 hbox hb; have BK429 := Aside0.mk (hbox); have GW429 := Aside0.mk ((gw_ hg (hs_ HB.out))); replace HB := st_ HB hb; have GE429 := Ge_.mk GW429.out; have NB427_429 := Ne_.mk (nl_ BK427.out hg); replace BK427 := bk2_ BK427 hb; have NB429_427 := Ne_.mk (NB427_429.out.symm); have NB428_429 := Ne_.mk (nl_ BK428.out hg); replace BK428 := bk2_ BK428 hb; have NB429_428 := Ne_.mk (NB428_429.out.symm); clear hb hbox hg; have hnb17 := NB427_428.out; have hnc17 := NB428_427.out; have hnb18 := NB427_429.out; have hnc18 := NB429_427.out; obtain ⟨z19_0, z19_1, y19_0, y19_1⟩ := bc2_ BK427.out) | ((with_reducible refine gate_callee (f := 96) rfl ?_); refine gl_ (some 16) Try.func96 #[.agg #[.slice A0_0 l0_0.length c0_0, .bool false]] ?_; (with_reducible refine (impl_copySub.calls k _ _ l0_0 false t430 t433 _ ?side1 ?side2 A13.out).mono ?_); (case side1 => exact cp_ ((Kd.C_below HR0_0.out HB.out))); (case side2 => exact HC0_0.out); rintro e w20 ⟨v431, rfl, ho0, hb⟩; refine ⟨_, rfl, ?_⟩; have HO432 := Aside0.mk (Kd.S_lower (Kd.S_newB ho0 (g := gb429) (o := .cells #[.slice none 0 0, .int .i64 0, .int .i64 0, .string (⟨#[]⟩ : ByteArray)] 44 (0, 0)) (pb_ BK429.out)) (below_size (hs_ HB.out))); replace BK427 := bk2_ BK427 hb; replace BK428 := bk2_ BK428 hb; replace BK429 := bk2_ BK429 hb; replace HB := st_ HB hb; (try clear hb); (try clear hk); (try clear ho0); obtain ⟨Ao21, co21, eo21⟩ := Kd.S_slice HO432.out; subst eo21; have hnb22 := NB428_429.out; have hnc22 := NB429_428.out; obtain ⟨z23_0, z23_1, y23_0, y23_1⟩ := bc2_ BK428.out; obtain ⟨z24_0, z24_1, z24_2, z24_3, y24_0, y24_1, y24_2, y24_3⟩ := bc4_ BK429.out))
  refine bodyPost_ret (results_list (rs := [.cell 2 39, .cell 3 44, .tmp 4]) rfl (by simp) (.cell gb428 39 #[.slice Ao21 t430.length co21, .bool t433] (0, 0) _ rfl (bp_ BK428.out) Try.underlying39 rfl (by kernel_rfl) (.cell gb429 44 #[.slice none 0 0, .int .i64 0, .int .i64 0, .string (⟨#[]⟩ : ByteArray)] (0, 0) _ rfl (bp_ BK429.out) Try.underlying44 rfl (by kernel_rfl) (.tmp .nil)))) rfl ?_
  exact ⟨_, _, by first | rfl | (simp [errW_none, errW_some] <;> rfl) | (simp [*, errW_none, errW_some] <;> rfl), by (with_reducible repeat (first | apply Kd.S_alloc | apply Kd.S_drewN | apply Kd.S_drew)); exact Kd.S_mono (sf_ gb429 (Kd.S_far (p := ⟨gb428, 1, none⟩) (Kd.S_far (p := ⟨gb428, 0, none⟩) (Kd.S_mono (Kd.S_types HO432.out BK428.out (by decide)) (fun k_ hk => (⟨hk, hk.1.2⟩ : _ ∧ k_ ≠ gb429))) (fun _ hk => hk.1.2) (.slice Ao21 t430.length co21)) (fun _ hk => hk.1.2) (.bool t433)) (fun _ hk => hk.2)) (fun _ hk => (by simp [Value.ownBlock])), by first | exact Kd.R_nil _ _ _ _ _ | exact Kd.N_nil _ _ _ _ _ | exact Kd.V_nil _ _ _ _ _ | exact Kd.Q_nil _ _ _ _ _ | exact Kd.S_nil _ _ _ _ _, by exact hs_ HB.out⟩
 rw [if_neg c12] at H
 have c12b0 : ((l0_0.length : Int) == 0) = false := beq_eq_false_iff_ne.mpr c12
 have c12b1 : ((l0_0.length : Int) != 0) = true := bne_iff_ne.mpr c12
 have c12b2 : ¬ (l0_0 = []) := fun h_ => c12 (by rw [h_]; rfl)
 by_cases c25 : 1 ≤ (l0_0.length : Int)
 ·
  rw [if_pos c25] at H
  have c25b0 := eq_true c25
  have c25b1 := decide_eq_true c25
  clear c25
  obtain ⟨y434, hy434⟩ : ∃ y_ : List (S44), y_ = (l0_0.drop 1) := ⟨_, rfl⟩
  replace H : ((impl_copyAlarms.f k y434).bind fun t438 => (if 0 < (l0_0.length : Int) then ((impl_copyAlarm.f ((rd_T44 l0_0 0).f0) ((rd_T44 l0_0 0).f1) ((rd_T44 l0_0 0).f2) ((rd_T44 l0_0 0).f3)).bind fun bt442 => (some (t438, false, bt442.1, bt442.2.1, bt442.2.2.1, bt442.2.2.2, 1))) else (none))) = some (r1, r2, r3, r4, r5, r6, r7) := by first | (rw [hy434]; with_reducible exact H) | (have H2_ := (Option.bind_some _ _).symm.trans H; rw [hy434]; with_reducible exact H2_) | (have H2_ := (Option.bind_some _ _).symm.trans H; with_reducible exact H2_) | with_reducible exact H | (rw [hy434]; exact H) | exact H
  have Ny434 := Aside0.mk hy434
  clear hy434
  replace H := Option.bind_eq_some_iff.mp H
  obtain ⟨t438, A260, H⟩ := H
  have A26 := Aside0.mk A260
  clear A260
  by_cases c27 : 0 < (l0_0.length : Int)
  ·
   rw [if_pos c27] at H
   have c27b0 := decide_eq_true c27
   have c27b1 : decide (0 < l0_0.length) = true := decide_eq_true (by omega)
   clear c27
   replace H := Option.bind_eq_some_iff.mp H
   obtain ⟨⟨t442, t445, t446, t447⟩, A280, H⟩ := H
   have A28 := Aside0.mk A280
   clear A280
   simp only [Option.some.injEq, Prod.mk.injEq] at H
   obtain ⟨rfl, rfl, rfl, rfl, rfl, rfl, rfl⟩ := H
   go_enter Try.func32, Try.ntmps32
   try go_wp2_with (first | ((with_reducible refine gd_ 1 rfl ?_); refine bv_ 1 #[.slice A0_0 l0_0.length c0_0, .bool false] 39 ?_; intro gb427 hg w29 hbox hb; have BK427 := Aside0.mk (hbox); have GW427 := Aside0.mk ((gw_ hg (hs_ HB.out))); replace HB := st_ HB hb; have GE427 := Ge_.mk GW427.out; clear hb hbox hg) | ((with_reducible refine gd_ 2 rfl ?_); refine bv_ 2 #[.slice none 0 0, .bool false] 39 ?_; intro gb428 hg w30 hbox hb; have BK428 := Aside0.mk (hbox); have GW428 := Aside0.mk ((gw_ hg (hs_ HB.out))); replace HB := st_ HB hb; have GE428 := Ge_.mk GW428.out; have NB427_428 := Ne_.mk (nl_ BK427.out hg); replace BK427 := bk2_ BK427 hb; have NB428_427 := Ne_.mk (NB427_428.out.symm); clear hb hbox hg) | ((with_reducible refine gd_ 3 rfl ?_); refine bv_ 3 #[.slice none 0 0, .int .i64 0, .int .i64 0, .string (⟨#[]⟩ : ByteArray)] 44 ?_; intro gb429 hg w31 hbox hb; have BK429 := Aside0.mk (hbox); have GW429 := Aside0.mk ((gw_ hg (hs_ HB.out))); replace HB := st_ HB hb; have GE429 := Ge_.mk GW429.out; have NB427_429 := Ne_.mk (nl_ BK427.out hg); replace BK427 := bk2_ BK427 hb; have NB429_427 := Ne_.mk (NB427_429.out.symm); have NB428_429 := Ne_.mk (nl_ BK428.out hg); replace BK428 := bk2_ BK428 hb; have NB429_428 := Ne_.mk (NB428_429.out.symm); clear hb hbox hg; have hnb32 := NB427_428.out; have hnc32 := NB428_427.out; have hnb33 := NB427_429.out; have hnc33 := NB429_427.out; obtain ⟨z34_0, z34_1, y34_0, y34_1⟩ := bc2_ BK427.out))
   replace BK427 := Aside0.mk (blk_drew BK427.out)
   replace BK428 := Aside0.mk (blk_drew BK428.out)
   replace BK429 := Aside0.mk (blk_drew BK429.out)
   replace HB := Aside0.mk (bd_ HB.out)
   have q36 : (1 : Int) ≤ ((l0_0.length : Int) : Int) := of_decide_eq_true (by with_reducible assumption)
   obtain ⟨i036, hi036, _, hsz36, _⟩ := info_parts info44
   have hroom36 : l0_0.length ≤ c0_0 := HC0_0.out
   have hC36 : Kd.C k44 _ A0_0 l0_0.length l0_0 := HR0_0.out
   have hcut36 := cut_from (P := Try.prog) 37 44 .i64 Try.underlying37 hi036 4 hsz36 A0_0 l0_0.length c0_0 1 (by omega) q36
   have hr36 := Kd.C_drop (m := (1 : Int).toNat) (c := c0_0) hC36 (by omega) hroom36
   obtain ⟨A36, hA36⟩ : ∃ A1, A1 = (if c0_0 = (1 : Int).toNat then A0_0 else (A0_0 : Option Addr).map (·.add ((1 : Int).toNat * 4))) := ⟨_, rfl⟩
   obtain ⟨c36, hc36⟩ : ∃ c1, c1 = c0_0 - (1 : Int).toNat := ⟨_, rfl⟩
   have hy36 : y434.length = l0_0.length - (1 : Int).toNat := (by rw [Ny434.out, List.length_drop] <;> omega)
   rw [show (l0_0).drop (1 : Int).toNat = y434 from Ny434.out.symm] at hr36
   replace hr36 : Kd.C k44 _ A36 y434.length y434 := (by rw [hA36]; exact hr36)
   rw [← hy36, ← hA36, ← hc36] at hcut36
   have HR437 := Aside0.mk hr36
   have HC437 := Aside0.mk (show y434.length ≤ c36 from by rw [hy36, hc36]; exact Nat.sub_le_sub_right hroom36 _)
   clear hr36 hC36 hroom36 hi036 hsz36 hc36
   have KY36 := Aside0.mk hy36
   have KA36 := Aside0.mk hA36
   clear hy36 hA36
   replace q36 := eq_true q36
   have p441 : 0 ≤ (0 : Int) := (by omega)
   have q441 : 0 < (l0_0.length : Int) := of_decide_eq_true (by with_reducible assumption)
   obtain ⟨ad441, A441_0, c441_0, e441, hx441_0, hx441_1, hx441_2, hx441_3, hl441_0, hi441_0⟩ := at_T44 HR0_0.out 0 p441 q441
   have hw441_3 := hx441_3
   (try rw [show ((0 : Int)).toNat = 0 from rfl] at hw441_3)
   (try rw [show 0 * 4 = 0 from rfl] at hw441_3)
   (try rw [Addr.add_zero'] at hw441_3)
   have hw441_2 := hx441_2
   (try rw [show ((0 : Int)).toNat = 0 from rfl] at hw441_2)
   (try rw [show 0 * 4 = 0 from rfl] at hw441_2)
   (try rw [Addr.add_zero'] at hw441_2)
   have hw441_1 := hx441_1
   (try rw [show ((0 : Int)).toNat = 0 from rfl] at hw441_1)
   (try rw [show 0 * 4 = 0 from rfl] at hw441_1)
   (try rw [Addr.add_zero'] at hw441_1)
   have hw441_0 := hx441_0
   (try rw [show ((0 : Int)).toNat = 0 from rfl] at hw441_0)
   (try rw [show 0 * 4 = 0 from rfl] at hw441_0)
   (try rw [Addr.add_zero'] at hw441_0)
   cases e441
   have qi441 : (0 < l0_0.length) = True := eq_true (by omega)
   (try rw [show ((0 : Int)).toNat = 0 from rfl] at hx441_0)
   (try rw [show 0 * 4 = 0 from rfl] at hx441_0)
   (try rw [Addr.add_zero'] at hx441_0)
   (try rw [show ((0 : Int)).toNat = 0 from rfl] at hx441_1)
   (try rw [show 0 * 4 = 0 from rfl] at hx441_1)
   (try rw [Addr.add_zero'] at hx441_1)
   (try rw [show ((0 : Int)).toNat = 0 from rfl] at hx441_2)
   (try rw [show 0 * 4 = 0 from rfl] at hx441_2)
   (try rw [Addr.add_zero'] at hx441_2)
   (try rw [show ((0 : Int)).toNat = 0 from rfl] at hx441_3)
   (try rw [show 0 * 4 = 0 from rfl] at hx441_3)
   (try rw [Addr.add_zero'] at hx441_3)
   replace hx441_0 := cl_ HB.out hx441_0
   replace hx441_1 := cl_ HB.out hx441_1
   replace hx441_2 := cl_ HB.out hx441_2
   replace hx441_3 := cl_ HB.out hx441_3
   have HR441_0 := Aside0.mk hi441_0
   have HC441_0 := Aside0.mk hl441_0
   clear hi441_0 hl441_0
   replace p441 := eq_true p441
   replace q441 := eq_true q441
   refine start_ (n := 13) (S := fun w' => w'.cell? ⟨gb427, 0, none⟩ = some (.slice (some ad441) l0_0.length c0_0) ∧ w'.cell? ⟨gb427, 1, none⟩ = some (.bool false) ∧ w'.cell? ad441 = some (.slice A441_0 ((rd_T44 l0_0 0).f0).length c441_0) ∧ w'.cell? ⟨ad441.block, ad441.off + 1, none⟩ = some (.int .i64 ((rd_T44 l0_0 0).f1)) ∧ w'.cell? ⟨ad441.block, ad441.off + 2, none⟩ = some (.int .i64 ((rd_T44 l0_0 0).f2)) ∧ w'.cell? ⟨ad441.block, ad441.off + 3, none⟩ = some (.string ((rd_T44 l0_0 0).f3))) (ds := []) #[f_,f_,f_,f_,f_,f_,f_,f_,f_,f_,f_,f_,f_] (by kernel_rfl) rfl rfl ⟨bx_ BK427.out 0, bx_ BK427.out 1, ((HB.out.cell (World.block_lt_of_cell? w _ hw441_0)).trans hw441_0), ((HB.out.cell (World.block_lt_of_cell? w _ hw441_1)).trans hw441_1), ((HB.out.cell (World.block_lt_of_cell? w _ hw441_2)).trans hw441_2), ((HB.out.cell (World.block_lt_of_cell? w _ hw441_3)).trans hw441_3)⟩ (fun hHeld => ?_); refine with_tabW impl_Hear.tab5 impl_Hear.bits5 (fun HT_ HW_ => ?_)
   generalize w31.drew = w35 at BK427 BK428 BK429 HB HR437 HR441_0 hx441_0 hx441_1 hx441_2 hx441_3 hHeld ⊢
   refine pw_ 0 18 (b_ 1 12) rfl rfl HT_.out ?_
   refine pw_ 5 23 #[t_,f_,f_,f_,f_,t_,f_,f_,f_,f_,f_,f_,f_] rfl rfl HT_.out ?_
   refine take_ (i := 1) (N := some 19) (v := ?_) (a' := ?_) #[t_,t_,f_,f_,f_,t_,f_,f_,f_,f_,f_,f_,f_] rfl rfl (take_ofW HT_.out HW_.out (by kernel_rfl)) (fun _ _ _ h => h) (Or.inl ⟨by rfl, ?_⟩) hHeld ?_ ?_
   rotate_left
   ·
    rintro w' ⟨s0, s1, s2, s3, s4, s5⟩
    go_simp
    with_reducible rfl
   rotate_left
   ·
    simp only [fr_]
    rfl
   refine pw_ 2 20 #[t_,t_,t_,f_,f_,t_,f_,f_,f_,f_,f_,f_,f_] rfl rfl HT_.out ?_
   refine take_ (i := 6) (N := some 24) (v := ?_) (a' := ?_) #[t_,t_,t_,f_,f_,t_,t_,f_,f_,f_,f_,f_,f_] rfl rfl (take_ofW HT_.out HW_.out (by kernel_rfl)) (fun _ _ _ h => h) (Or.inl ⟨by rfl, ?_⟩) hHeld ?_ ?_
   rotate_left
   ·
    rintro w' ⟨s0, s1, s2, s3, s4, s5⟩
    go_simp
    with_reducible rfl
   rotate_left
   ·
    simp only [fr_]
    rfl
   refine pw_ 7 25 #[t_,t_,t_,f_,f_,t_,t_,t_,f_,f_,f_,f_,f_] rfl rfl HT_.out ?_
   refine take_ (i := 8) (N := some 26) (v := ?_) (a' := ?_) #[t_,t_,t_,f_,f_,t_,t_,t_,t_,f_,f_,f_,f_] rfl rfl (take_ofW HT_.out HW_.out (by kernel_rfl)) (fun _ _ _ h => h) (Or.inl ⟨by rfl, ?_⟩) hHeld ?_ ?_
   rotate_left
   ·
    rintro w' ⟨s0, s1, s2, s3, s4, s5⟩
    go_simp
    with_reducible rfl
   rotate_left
   ·
    simp only [fr_]
    rfl
   refine one_ (i := 3) (N := some 21) #[t_,t_,t_,t_,f_,t_,t_,t_,t_,f_,f_,f_,f_] rfl rfl (one_of HT_.out (by kernel_rfl)) (by decide) (fun K hK => ?_)
   refine gs_ Try.func101 #[.slice A36 y434.length c36] ?_
   with_reducible refine (impl_copyAlarms.calls k _ _ y434 t438 _ ?side1 ?side2 A26.out).mono ?_
   (case side1 => exact cp_ ((Kd.C_below HR437.out HB.out)))
   (case side2 => exact HC437.out)
   rintro e w37 ⟨v439, rfl, ho0, hb⟩
   refine ⟨_, rfl, ?_⟩
   have HO440 := Aside0.mk (Kd.S_lower (Kd.S_newB ho0 (g := gb429) (o := .cells #[.slice none 0 0, .int .i64 0, .int .i64 0, .string (⟨#[]⟩ : ByteArray)] 44 (0, 0)) (pb_ BK429.out)) (below_size (hs_ HB.out)))
   replace BK427 := bk2_ BK427 hb
   replace BK428 := bk2_ BK428 hb
   replace BK429 := bk2_ BK429 hb
   replace HB := st_ HB hb
   (try clear hb)
   (try clear hk)
   (try clear ho0)
   obtain ⟨Ao38, co38, eo38⟩ := Kd.S_slice HO440.out
   (first | subst eo38 | (obtain ⟨rfl, rfl⟩ := si_ eo38))
   refine hK.out _ _ ⟨bx_ BK427.out 0, bx_ BK427.out 1, ((HB.out.cell (World.block_lt_of_cell? w _ hw441_0)).trans hw441_0), ((HB.out.cell (World.block_lt_of_cell? w _ hw441_1)).trans hw441_1), ((HB.out.cell (World.block_lt_of_cell? w _ hw441_2)).trans hw441_2), ((HB.out.cell (World.block_lt_of_cell? w _ hw441_3)).trans hw441_3)⟩ (fun hHeld => ?_)
   clear hK K
   refine norm_ (a' := ?_) ?_ ?_
   rotate_left
   ·
    show Act.put _ (some 21) _ = _
    simp only [fr_]
    rfl
   refine pw_ 4 22 (b_ 9 4) rfl rfl HT_.out ?_
   refine one_ (i := 9) (N := some 27) #[t_,t_,t_,t_,t_,t_,t_,t_,t_,t_,f_,f_,f_] rfl rfl (one_of HT_.out (by kernel_rfl)) (by decide) (fun K hK => ?_)
   refine gs_ Try.func97 #[.agg #[.slice A441_0 ((rd_T44 l0_0 0).f0).length c441_0, .int .i64 ((rd_T44 l0_0 0).f1), .int .i64 ((rd_T44 l0_0 0).f2), .string ((rd_T44 l0_0 0).f3)]] ?_
   with_reducible refine (impl_copyAlarm.calls _ _ ((rd_T44 l0_0 0).f0) ((rd_T44 l0_0 0).f1) ((rd_T44 l0_0 0).f2) ((rd_T44 l0_0 0).f3) t442 t445 t446 t447 _ ?side1 ?side2 A28.out).mono ?_
   (case side1 => exact cp_ ((Kd.C_below HR441_0.out HB.out)))
   (case side2 => exact HC441_0.out)
   rintro e w39 ⟨v443, rfl, ho0, hb⟩
   refine ⟨_, rfl, ?_⟩
   replace HO440 := Aside0.mk (Kd.S_elder' (sp_ HO440.out) (Kd.R_base ho0) hb)
   have HO444 := Aside0.mk (Kd.R_lower ho0 (below_size (hs_ HB.out)))
   replace BK427 := bk2_ BK427 hb
   replace BK428 := bk2_ BK428 hb
   replace BK429 := bk2_ BK429 hb
   replace HB := st_ HB hb
   (try clear hb)
   (try clear hk)
   (try clear ho0)
   obtain ⟨Ao42, co42, eo42⟩ := Kd.R_slice HO444.out
   (first | subst eo42 | (obtain ⟨rfl, rfl⟩ := si_ eo42))
   refine hK.out _ _ ⟨bx_ BK427.out 0, bx_ BK427.out 1, ((HB.out.cell (World.block_lt_of_cell? w _ hw441_0)).trans hw441_0), ((HB.out.cell (World.block_lt_of_cell? w _ hw441_1)).trans hw441_1), ((HB.out.cell (World.block_lt_of_cell? w _ hw441_2)).trans hw441_2), ((HB.out.cell (World.block_lt_of_cell? w _ hw441_3)).trans hw441_3)⟩ (fun hHeld => ?_)
   clear hK K
   refine norm_ (a' := ?_) ?_ ?_
   rotate_left
   ·
    show Act.put _ (some 27) _ = _
    simp only [fr_]
    rfl
   refine one_ (i := 10) (N := none) #[t_,t_,t_,t_,t_,t_,t_,t_,t_,t_,t_,f_,f_] rfl rfl (one_of HT_.out (by kernel_rfl)) (by decide) (fun K hK => ?_)
   have hs40 : w39.cell? ⟨gb428, 0, none⟩ = some (.slice none 0 0) := bx_ BK428.out 0
   have hfs40 := blk_frozen BK428.out 0
   have hns40_0 := NB427_428.out
   have hns40_2 := NB429_428.out
   have hms40_0 := NB428_427.out
   have hms40_2 := NB428_429.out
   have hs41 : w39.cell? ⟨gb428, 1, none⟩ = some (.bool false) := bx_ BK428.out 1
   have hfs41 := blk_frozen BK428.out 1
   have hns41_0 := NB427_428.out
   have hns41_2 := NB429_428.out
   have hms41_0 := NB428_427.out
   have hms41_2 := NB428_429.out
   refine skip_ (w1 := ?_) (by rfl) rfl ?_ ?_
   rotate_left
   ·
    go_simp
    rfl
   refine hK.out _ _ ⟨(cg_ (hHeld.1)), (cg_ (hHeld.2.1)), (ce_ hw441_0 GW428.out ((ce_ hw441_0 GW428.out (hHeld.2.2.1)))), (ce_ hw441_1 GW428.out ((ce_ hw441_1 GW428.out (hHeld.2.2.2.1)))), (ce_ hw441_2 GW428.out ((ce_ hw441_2 GW428.out (hHeld.2.2.2.2.1)))), (ce_ hw441_3 GW428.out ((ce_ hw441_3 GW428.out (hHeld.2.2.2.2.2))))⟩ (fun hHeld => ?_)
   clear hK K
   refine one_ (i := 11) (N := none) #[t_,t_,t_,t_,t_,t_,t_,t_,t_,t_,t_,t_,f_] rfl rfl (one_of HT_.out (by kernel_rfl)) (by decide) (fun K hK => ?_)
   have hs43 : w39.cell? ⟨gb429, 0, none⟩ = some (.slice none 0 0) := bx_ BK429.out 0
   have hfs43 := blk_frozen BK429.out 0
   have hns43_0 := NB427_429.out
   have hns43_1 := NB428_429.out
   have hms43_0 := NB429_427.out
   have hms43_1 := NB429_428.out
   have hs44 : w39.cell? ⟨gb429, 1, none⟩ = some (.int .i64 0) := bx_ BK429.out 1
   have hfs44 := blk_frozen BK429.out 1
   have hns44_0 := NB427_429.out
   have hns44_1 := NB428_429.out
   have hms44_0 := NB429_427.out
   have hms44_1 := NB429_428.out
   have hs45 : w39.cell? ⟨gb429, 2, none⟩ = some (.int .i64 0) := bx_ BK429.out 2
   have hfs45 := blk_frozen BK429.out 2
   have hns45_0 := NB427_429.out
   have hns45_1 := NB428_429.out
   have hms45_0 := NB429_427.out
   have hms45_1 := NB429_428.out
   have hs46 : w39.cell? ⟨gb429, 3, none⟩ = some (.string (⟨#[]⟩ : ByteArray)) := bx_ BK429.out 3
   have hfs46 := blk_frozen BK429.out 3
   have hns46_0 := NB427_429.out
   have hns46_1 := NB428_429.out
   have hms46_0 := NB429_427.out
   have hms46_1 := NB429_428.out
   refine skip_ (w1 := ?_) (by rfl) rfl ?_ ?_
   rotate_left
   ·
    go_simp
    rfl
   refine hK.out _ _ ⟨(cg_ (hHeld.1)), (cg_ (hHeld.2.1)), (ce_ hw441_0 GW429.out ((ce_ hw441_0 GW429.out ((ce_ hw441_0 GW429.out ((ce_ hw441_0 GW429.out (hHeld.2.2.1)))))))), (ce_ hw441_1 GW429.out ((ce_ hw441_1 GW429.out ((ce_ hw441_1 GW429.out ((ce_ hw441_1 GW429.out (hHeld.2.2.2.1)))))))), (ce_ hw441_2 GW429.out ((ce_ hw441_2 GW429.out ((ce_ hw441_2 GW429.out ((ce_ hw441_2 GW429.out (hHeld.2.2.2.2.1)))))))), (ce_ hw441_3 GW429.out ((ce_ hw441_3 GW429.out ((ce_ hw441_3 GW429.out ((ce_ hw441_3 GW429.out (hHeld.2.2.2.2.2))))))))⟩ (fun hHeld => ?_)
   clear hK K
   refine pw_ 12 4 (b_ 13 0) rfl rfl HT_.out ?_
   refine done_ (done_of HT_.out (by kernel_rfl)) ?_
   try go_wp2
   refine bodyPost_ret (results_list (rs := [.cell 2 39, .cell 3 44, .tmp 4]) rfl (by simp) (.cell gb428 39 #[.slice Ao38 t438.length co38, .bool false] (0, 0) _ rfl (bp_ BK428.out) Try.underlying39 rfl (by kernel_rfl) (.cell gb429 44 #[.slice Ao42 t442.length co42, .int .i64 t445, .int .i64 t446, .string t447] (0, 0) _ rfl (bp_ BK429.out) Try.underlying44 rfl (by kernel_rfl) (.tmp .nil)))) rfl ?_
   exact ⟨_, _, by first | rfl | (simp [errW_none, errW_some] <;> rfl) | (simp [*, errW_none, errW_some] <;> rfl), by (with_reducible repeat (first | apply Kd.S_alloc | apply Kd.S_drewN | apply Kd.S_drew)); exact Kd.S_mono (sf_ gb429 (Kd.S_far (p := ⟨gb428, 1, none⟩) (Kd.S_far (p := ⟨gb428, 0, none⟩) (Kd.S_mono (Kd.S_types HO440.out BK428.out (by decide)) (fun k_ hk => (⟨hk, hk.1.1.2⟩ : _ ∧ k_ ≠ gb429))) (fun _ hk => hk.1.2) (.slice Ao38 t438.length co38)) (fun _ hk => hk.1.2) (.bool false)) (fun _ hk => hk.2)) (fun _ hk => hk.1.1.2), by (with_reducible repeat (first | apply Kd.R_alloc | apply Kd.R_drewN | apply Kd.R_drew)); exact Kd.R_mono (rf_ gb429 (Kd.R_far (p := ⟨gb428, 1, none⟩) (Kd.R_far (p := ⟨gb428, 0, none⟩) (Kd.R_types (Kd.R_types HO444.out BK428.out (by decide)) BK429.out (by decide)) (fun _ hk => hk.1.2) (.slice Ao38 t438.length co38)) (fun _ hk => hk.1.2) (.bool false)) (fun _ hk => hk.2)) (fun _ hk => trivial), by exact hs_ HB.out⟩
  rw [if_neg c27] at H
  exact absurd H (by simp)
 rw [if_neg c25] at H
 exact absurd H (by simp)
def spec_TellAll.l0 : Nat → List (S39) → List (S39) → Int → List (S164) → Int → Int → ByteArray → Option ((List (S39)))
 | 0, _, _, _, _, _, _, _ => none
 | k + 1, x0, x5, x6, x612000, x612001, x612002, x612003 => if x6 < (x0.length : Int) then (if 0 ≤ x6 then ((spec_Tell.f k ((rd_T39 x0 x6).f0) ((rd_T39 x0 x6).f1) x612000 x612001 x612002 x612003).bind fun bt616 => (if x5.length < 4398046511104 then (spec_TellAll.l0 k x0 (x5 ++ [(⟨bt616.1, bt616.2⟩ : S39)]) (wrap64 (x6 + 1)) x612000 x612001 x612002 x612003) else (none))) else (none)) else (some x5)
def spec_TellAll.f (k : Nat) (l0 : List (S39)) (l1_0 : List (S164)) (a1_1 : Int) (a1_2 : Int) (a1_3 : ByteArray) : Option ((List (S39))) := spec_TellAll.l0 k l0 (([] : List (S39))) 0 l1_0 a1_1 a1_2 a1_3
theorem spec_TellAll.mono_l : ∀ k, (∀ y0 y1 y2 y3 y4 y5 y6, LeO (spec_TellAll.l0 k y0 y1 y2 y3 y4 y5 y6) (spec_TellAll.l0 (k + 1) y0 y1 y2 y3 y4 y5 y6))
 | 0 => fun _ _ _ _ _ _ _ r h => by simp [spec_TellAll.l0] at h
 | k + 1 => by
  have ih0 := spec_TellAll.mono_l k
  intro y0 y1 y2 y3 y4 y5 y6
  unfold spec_TellAll.l0
  repeat' first
  | (with_reducible exact ih0 _ _ _ _ _ _ _)
  | (with_reducible exact spec_Tell.mono _ _ _ _ _ _ _)
  | (with_reducible exact LeO.refl _)
  | (with_reducible exact LeO.none _)
  | (with_reducible refine LeO.ite ?_ ?_)
  | (with_reducible refine LeO.bind ?_ (fun _ => ?_))
  | exact ih0 _ _ _ _ _ _ _
  | exact spec_Tell.mono _ _ _ _ _ _ _
theorem spec_TellAll.mono : ∀ a0 a1 a2 a3 a4 k, LeO (spec_TellAll.f k a0 a1 a2 a3 a4) (spec_TellAll.f (k + 1) a0 a1 a2 a3 a4) := by
 intro a0 a1 a2 a3 a4 k
 have ih0 := spec_TellAll.mono_l k
 unfold spec_TellAll.f
 repeat' first | (with_reducible first | exact ih0 _ _ _ _ _ _ _ | exact spec_Tell.mono _ _ _ _ _ _ _ | exact LeO.refl _ | exact LeO.none _ | refine LeO.ite ?_ ?_ | refine LeO.bind ?_ (fun _ => ?_)) | exact ih0 _ _ _ _ _ _ _ | exact spec_Tell.mono _ _ _ _ _ _ _
def spec_TellAll.T5 : Bool × List (List Nat × List Nat) := (true, [([], []), ([], []), ([0, 1], [0, 1]), ([2], [2]), ([], []), ([3, 4], [3, 4]), ([], []), ([6, 5, 5, 0, 1, 2, 3, 4, 5, 6], [5, 6])])
def spec_TellAll.B5 : List Nat := [0, 0, 3, 7, 0, 31, 0, 127]
theorem spec_TellAll.tab5 : rtab .any (opsOf Try.f42 5) = spec_TellAll.T5 := by kernel_rfl
theorem spec_TellAll.bits5 : waitsOk spec_TellAll.T5.2 spec_TellAll.B5 = true := by kernel_rfl
theorem spec_TellAll.calls (k : Nat) (A0 : Option Addr) (c0 : Nat) (l0 : List (S39)) (A1_0 : Option Addr) (c1_0 : Nat) (l1_0 : List (S164)) (a1_1 : Int) (a1_2 : Int) (a1_3 : ByteArray) (r : List (S39)) (w : World) (hr0 : Kd.C k39 w A0 l0.length l0) (hc0 : l0.length ≤ c0) (hr1_0 : Kd.C k164 w A1_0 l1_0.length l1_0) (hc1_0 : l1_0.length ≤ c1_0) (h : spec_TellAll.f k l0 l1_0 a1_1 a1_2 a1_3 = some r) :
  Calls Try.prog 42 #[.slice A0 l0.length c0, .agg #[.slice A1_0 l1_0.length c1_0, .int .i64 a1_1, .int .i64 a1_2, .string a1_3]] w fun e w' => ∃ v0_ : Value, e = .returned (v0_) ∧ Kd.R k39 39 w' w.heap.size (fun _ => True) v0_ r ∧ Below w.heap.size w w' := by
 have hu44 := Try.underlying44
 have hu39 := Try.underlying39
 have HR0 := Aside0.mk hr0
 have HC0 := Aside0.mk hc0
 clear hr0 hc0
 have HR1_0 := Aside0.mk hr1_0
 have HC1_0 := Aside0.mk hc1_0
 clear hr1_0 hc1_0
 have HB := Aside0.mk (Below.refl w.heap.size w)
 have H : (spec_TellAll.l0 k l0 (([] : List (S39))) 0 l1_0 a1_1 a1_2 a1_3) = some r := h
 clear h
 obtain ⟨y612, hy612⟩ : ∃ y_ : List (S39), y_ = (([] : List (S39))) := ⟨_, rfl⟩
 replace H : (spec_TellAll.l0 k l0 y612 0 l1_0 a1_1 a1_2 a1_3) = some r := by first | (rw [hy612]; with_reducible exact H) | (have H2_ := (Option.bind_some _ _).symm.trans H; rw [hy612]; with_reducible exact H2_) | (have H2_ := (Option.bind_some _ _).symm.trans H; with_reducible exact H2_) | with_reducible exact H | (rw [hy612]; exact H) | exact H
 have Ny612 := Aside0.mk hy612
 clear hy612
 have H' := Aside0.mk H
 clear H
 go_enter Try.func42, Try.ntmps42
 go_wp2_with (first | ((with_reducible refine gd_ 3 rfl ?_); refine bv_ 3 #[.slice A1_0 l1_0.length c1_0, .int .i64 a1_1, .int .i64 a1_2, .string a1_3] 44 ?_; intro gb611 hg w3 hbox hb; have BK611 := Aside0.mk (hbox); have GW611 := Aside0.mk ((gw_ hg (hs_ HB.out))); replace HB := st_ HB hb; have GE611 := Ge_.mk GW611.out; clear hb hbox hg) | ((with_reducible refine gd_ 8 rfl ?_); refine Kd.R_lit k39 _ 39 ?hg (N := 8) ?hd (xs := ([] : List (S39))) (inner := []) (ok := fun _ => True) (okp := fun _ => True) ?hr ?hp (fun _ hk => hk) trivial (Below.refl _ _) (Nat.le_refl _) (by simp) ?_; (case hd => rfl); (case hg => rfl); (case hr => first | (go_simp; done) | (go_simp; rfl)); (case hp => exact (Reps.none _ _)); intro v613 w4 ho5 hb hg_ hnew_; clear hg_ hnew_; (first | rw [← Ny612.out] at ho5 | (simp only [Int.reduceToNat] at ho5; rw [← Ny612.out] at ho5)); have HO614 := Aside0.mk (Kd.R_lower (Kd.R_newB ho5 (g := gb611) (o := .cells #[.slice A1_0 l1_0.length c1_0, .int .i64 a1_1, .int .i64 a1_2, .string a1_3] 44 (0, 0)) (pb_ BK611.out)) (below_size (hs_ HB.out))); replace BK611 := bk2_ BK611 hb; replace HB := st_ HB hb; clear hb ho5))
 go_loopg [5, 6] k (fun kq v5 v6 w' => ∃ (x5_1 : List (S39)) (x6_1 : Int), v6 = .int .i64 x6_1 ∧ Aside0 (spec_TellAll.l0 kq l0 x5_1 x6_1 l1_0 a1_1 a1_2 a1_3 = some r) ∧ Aside0 (kq ≤ k) ∧ Aside0 (Kd.R k39 39 w' w.heap.size (fun k_ => k_ ≠ gb611) v5 x5_1) ∧ Aside0 (w'.heap[gb611]? = some (.cells #[(.slice A1_0 l1_0.length c1_0), .int .i64 a1_1, .int .i64 a1_2, .string a1_3] 44 (0, 0))) ∧ Aside0 (Below w.heap.size w w'))
 case atStart => exact ⟨(y612), (0), (by first | rfl | (simp; done) | (simp [*]; done)), H', ⟨Nat.le_refl _⟩, ⟨by (with_reducible repeat (first | apply Kd.R_alloc | apply Kd.R_drewN | apply Kd.R_drew)); exact Kd.R_mono HO614.out (fun _ hk => hk.2)⟩, ⟨bq_ BK611.out⟩, ⟨by exact hs_ HB.out⟩⟩
 case round =>
  clear H'
  try clear c1
  try clear p2
  try clear c4
  obtain ⟨x5_1, x6_1, rfl, HA, HK1, HO_5, BK611, HB⟩ := hrel
  cases gk with
  | zero => exact absurd HA.out (by simp [spec_TellAll.l0])
  | succ k1 =>
   have H := HA.out
   clear HA
   simp only [spec_TellAll.l0] at H
   by_cases c6 : x6_1 < (l0.length : Int)
   ·
    rw [if_pos c6] at H
    have c6b0 := decide_eq_true c6
    clear c6
    by_cases c7 : 0 ≤ x6_1
    ·
     rw [if_pos c7] at H
     have c7b0 := decide_eq_true c7
     clear c7
     replace H := Option.bind_eq_some_iff.mp H
     obtain ⟨⟨t616, t619⟩, A80, H⟩ := H
     have A8 := Aside0.mk A80
     clear A80
     by_cases c9 : x5_1.length < 4398046511104
     ·
      rw [if_pos c9] at H
      have LMc9 := Aside0.mk c9
      clear c9
      obtain ⟨y621, hy621⟩ : ∃ y_ : List (S39), y_ = (x5_1 ++ [(⟨t616, t619⟩ : S39)]) := ⟨_, rfl⟩
      replace H : (spec_TellAll.l0 k1 l0 y621 (wrap64 (x6_1 + 1)) l1_0 a1_1 a1_2 a1_3) = some r := by first | (rw [hy621]; with_reducible exact H) | (have H2_ := (Option.bind_some _ _).symm.trans H; rw [hy621]; with_reducible exact H2_) | (have H2_ := (Option.bind_some _ _).symm.trans H; with_reducible exact H2_) | with_reducible exact H | (rw [hy621]; exact H) | exact H
      have Ny621 := Aside0.mk hy621
      clear hy621
      have H' := Aside0.mk H
      clear H
      try go_wp2
      replace HO_5 := Aside0.mk (Kd.R_drew HO_5.out)
      replace BK611 := Aside0.mk (blk_drew BK611.out)
      replace HB := Aside0.mk (bd_ HB.out)
      have p615 : 0 ≤ (x6_1 : Int) := of_decide_eq_true (by with_reducible assumption)
      have q615 : x6_1 < (l0.length : Int) := of_decide_eq_true (by with_reducible assumption)
      obtain ⟨ad615, A615_0, c615_0, e615, hx615_0, hx615_1, hl615_0, hi615_0⟩ := at_T39 HR0.out x6_1 p615 q615
      have hw615_1 := hx615_1
      have hw615_0 := hx615_0
      cases e615
      replace hx615_0 := cl_ HB.out hx615_0
      replace hx615_1 := cl_ HB.out hx615_1
      have HR615_0 := Aside0.mk hi615_0
      have HC615_0 := Aside0.mk hl615_0
      clear hi615_0 hl615_0
      replace p615 := eq_true p615
      replace q615 := eq_true q615
      refine start_ (n := 8) (S := fun w' => w'.cell? ⟨gb611, 0, none⟩ = some (.slice A1_0 l1_0.length c1_0) ∧ w'.cell? ⟨gb611, 1, none⟩ = some (.int .i64 a1_1) ∧ w'.cell? ⟨gb611, 2, none⟩ = some (.int .i64 a1_2) ∧ w'.cell? ⟨gb611, 3, none⟩ = some (.string a1_3) ∧ w'.cell? (ad615.add ((x6_1).toNat * 2)) = some (.slice A615_0 ((rd_T39 l0 x6_1).f0).length c615_0) ∧ w'.cell? ⟨(ad615.add ((x6_1).toNat * 2)).block, (ad615.add ((x6_1).toNat * 2)).off + 1, none⟩ = some (.bool ((rd_T39 l0 x6_1).f1))) (ds := []) #[f_,f_,f_,f_,f_,f_,f_,f_] (by kernel_rfl) rfl rfl ⟨bx_ BK611.out 0, bx_ BK611.out 1, bx_ BK611.out 2, bx_ BK611.out 3, ((HB.out.cell (World.block_lt_of_cell? w _ hw615_0)).trans hw615_0), ((HB.out.cell (World.block_lt_of_cell? w _ hw615_1)).trans hw615_1)⟩ (fun hHeld => ?_); refine with_tabW spec_TellAll.tab5 spec_TellAll.bits5 (fun HT_ HW_ => ?_)
      generalize wr.drew = w10 at HO_5 BK611 HB HR615_0 hx615_0 hx615_1 hHeld ⊢
      refine pw_ 0 15 (b_ 1 7) rfl rfl HT_.out ?_
      refine pw_ 1 16 (b_ 2 6) rfl rfl HT_.out ?_
      refine pw_ 2 17 (b_ 3 5) rfl rfl HT_.out ?_
      refine take_ (i := 3) (N := some 18) (v := ?_) (a' := ?_) #[t_,t_,t_,t_,f_,f_,f_,f_] rfl rfl (take_ofW HT_.out HW_.out (by kernel_rfl)) (fun _ _ _ h => h) (Or.inl ⟨by rfl, ?_⟩) hHeld ?_ ?_
      rotate_left
      ·
       rintro w' ⟨s0, s1, s2, s3, s4, s5⟩
       go_simp
       with_reducible rfl
      rotate_left
      ·
       simp only [fr_]
       rfl
      refine take_ (i := 4) (N := some 19) (v := ?_) (a' := ?_) #[t_,t_,t_,t_,t_,f_,f_,f_] rfl rfl (take_ofW HT_.out HW_.out (by kernel_rfl)) (fun _ _ _ h => h) (Or.inl ⟨by rfl, ?_⟩) hHeld ?_ ?_
      rotate_left
      ·
       rintro w' ⟨s0, s1, s2, s3, s4, s5⟩
       go_simp
       with_reducible rfl
      rotate_left
      ·
       simp only [fr_]
       rfl
      refine join_ (σ := Value × Nat) 1 #[t_,t_,t_,t_,t_,t_,t_,f_] (fun s_ => [(20, .agg #[s_.1, .bool t619]), (7, .pointer (some ⟨s_.2, 0, none⟩))]) (fun s_ w' => (w'.cell? ⟨gb611, 0, none⟩ = some (.slice A1_0 l1_0.length c1_0) ∧ w'.cell? ⟨gb611, 1, none⟩ = some (.int .i64 a1_1) ∧ w'.cell? ⟨gb611, 2, none⟩ = some (.int .i64 a1_2) ∧ w'.cell? ⟨gb611, 3, none⟩ = some (.string a1_3) ∧ w'.cell? (ad615.add ((x6_1).toNat * 2)) = some (.slice A615_0 ((rd_T39 l0 x6_1).f0).length c615_0) ∧ w'.cell? ⟨(ad615.add ((x6_1).toNat * 2)).block, (ad615.add ((x6_1).toNat * 2)).off + 1, none⟩ = some (.bool ((rd_T39 l0 x6_1).f1))) ∧ (Kd.S k44 44 w' w.heap.size (fun k_ => k_ ≠ gb611) s_.1 t616) ∧ (Kd.R k39 39 w' w.heap.size (fun k_ => some k_ ≠ (s_.1 : Value).ownBlock ∧ k_ ≠ gb611 ∧ k_ ≠ s_.2) u5 x5_1) ∧ (w'.heap[gb611]? = some (.cells #[.slice A1_0 l1_0.length c1_0, .int .i64 a1_1, .int .i64 a1_2, .string a1_3] 44 (0, 0))) ∧ (w'.heap[s_.2]? = some (.cells #[.slice none 0 0, .bool false] 39 (0, 0))) ∧ (w.heap.size ≤ s_.2) ∧ (w.heap.size ≤ s_.2) ∧ (gb611 ≠ s_.2) ∧ (s_.2 ≠ gb611) ∧ (Below w.heap.size w w')) ?_ ?_
      rotate_left
      ·
       intro hCont
       refine two_ (i := 5) (j := 6) (Ni := some 20) (Nj := some 7) #[t_,t_,t_,t_,t_,t_,f_,f_] #[t_,t_,t_,t_,t_,f_,t_,f_] rfl rfl rfl rfl (two_of HT_.out (by kernel_rfl)) (by decide) (by decide) (fun K hK => ?_) (fun K hK => ?_)
       ·
        skip
        refine gs_ Try.func22 #[.agg #[.slice A615_0 ((rd_T39 l0 x6_1).f0).length c615_0, .bool ((rd_T39 l0 x6_1).f1)], .agg #[.slice A1_0 l1_0.length c1_0, .int .i64 a1_1, .int .i64 a1_2, .string a1_3]] ?_
        with_reducible refine (spec_Tell.calls k1 _ _ ((rd_T39 l0 x6_1).f0) ((rd_T39 l0 x6_1).f1) _ _ l1_0 a1_1 a1_2 a1_3 t616 t619 _ ?side1 ?side2 ?side3 ?side4 A8.out).mono ?_
        (case side1 => exact cp_ ((Kd.C_below HR615_0.out HB.out)))
        (case side2 => exact HC615_0.out)
        (case side3 => exact cp_ ((Kd.C_below HR1_0.out HB.out)))
        (case side4 => exact HC1_0.out)
        rintro e w11 ⟨v617, rfl, ho0, hb⟩
        refine ⟨_, rfl, ?_⟩
        replace HO_5 := Aside0.mk (Kd.R_elder' (rp_ HO_5.out) (Kd.S_base ho0) hb)
        have HO618 := Aside0.mk (Kd.S_lower (Kd.S_newB ho0 (g := gb611) (o := .cells #[.slice A1_0 l1_0.length c1_0, .int .i64 a1_1, .int .i64 a1_2, .string a1_3] 44 (0, 0)) (pb_ BK611.out)) (below_size (hs_ HB.out)))
        replace BK611 := bk2_ BK611 hb
        replace HB := st_ HB hb
        (try clear hb)
        (try clear hk)
        (try clear ho0)
        refine hK.out _ _ ⟨bx_ BK611.out 0, bx_ BK611.out 1, bx_ BK611.out 2, bx_ BK611.out 3, ((HB.out.cell (World.block_lt_of_cell? w _ hw615_0)).trans hw615_0), ((HB.out.cell (World.block_lt_of_cell? w _ hw615_1)).trans hw615_1)⟩ (fun hHeld => ?_)
        clear hK K
        refine norm_ (a' := ?_) ?_ ?_
        rotate_left
        ·
         show Act.put _ (some 20) _ = _
         simp only [fr_]
         rfl
        refine one_ (i := 6) (N := some 7) #[t_,t_,t_,t_,t_,t_,t_,f_] rfl rfl (one_of HT_.out (by kernel_rfl)) (by decide) (fun K hK => ?_)
        refine bs1_ 7 #[.slice none 0 0, .bool false] 39 ?_
        intro gb620 hg w12 hbox hb
        replace HO_5 := Aside0.mk (Kd.R_below (Kd.R_elderB (rp_ HO_5.out) gb620 (Nat.le_of_eq hg.symm)) hb)
        replace HO618 := Aside0.mk (Kd.S_below (sp_ HO618.out) hb)
        have BK620 := Aside0.mk (hbox)
        have GW620 := Aside0.mk ((gw_ hg (hs_ HB.out)))
        have GE620 := Ge_.mk ((gw_ hg (hs_ HB.out)))
        replace HB := st_ HB hb
        have NB611_620 := Ne_.mk (nl_ BK611.out hg)
        have NB620_611 := Ne_.mk (ng_ BK611.out hg)
        replace BK611 := bk2_ BK611 hb
        clear hb hbox hg
        refine hK.out _ _ ⟨bx_ BK611.out 0, bx_ BK611.out 1, bx_ BK611.out 2, bx_ BK611.out 3, ((HB.out.cell (World.block_lt_of_cell? w _ hw615_0)).trans hw615_0), ((HB.out.cell (World.block_lt_of_cell? w _ hw615_1)).trans hw615_1)⟩ (fun hHeld => ?_)
        clear hK K
        refine norm_ (a' := ?_) ?_ ?_
        rotate_left
        ·
         show Act.put _ (some 7) _ = _
         simp only [fr_]
         rfl
        exact norm_ (by simp only [putAll, fr_]) (hCont (v617, gb620) _ ⟨hHeld, (Kd.S_mono (sp_ HO618.out) (fun _ hk => hk.2)), (Kd.R_mono (rp_ HO_5.out) (fun _ hk => ⟨hk.1.2, ⟨hk.1.1, hk.2⟩⟩)), (pb_ BK611.out), (pb_ BK620.out), GW620.out, GE620.out, NB611_620.out, NB620_611.out, (hs_ HB.out)⟩)
       skip
       refine bs1_ 7 #[.slice none 0 0, .bool false] 39 ?_
       intro gb620 hg w11 hbox hb
       replace HO_5 := Aside0.mk (Kd.R_below (Kd.R_elderB (rp_ HO_5.out) gb620 (Nat.le_of_eq hg.symm)) hb)
       have BK620 := Aside0.mk (hbox)
       have GW620 := Aside0.mk ((gw_ hg (hs_ HB.out)))
       have GE620 := Ge_.mk ((gw_ hg (hs_ HB.out)))
       replace HB := st_ HB hb
       have NB611_620 := Ne_.mk (nl_ BK611.out hg)
       have NB620_611 := Ne_.mk (ng_ BK611.out hg)
       replace BK611 := bk2_ BK611 hb
       clear hb hbox hg
       refine hK.out _ _ ⟨bx_ BK611.out 0, bx_ BK611.out 1, bx_ BK611.out 2, bx_ BK611.out 3, ((HB.out.cell (World.block_lt_of_cell? w _ hw615_0)).trans hw615_0), ((HB.out.cell (World.block_lt_of_cell? w _ hw615_1)).trans hw615_1)⟩ (fun hHeld => ?_)
       clear hK K
       refine norm_ (a' := ?_) ?_ ?_
       rotate_left
       ·
        show Act.put _ (some 7) _ = _
        simp only [fr_]
        rfl
       refine one_ (i := 5) (N := some 20) #[t_,t_,t_,t_,t_,t_,t_,f_] rfl rfl (one_of HT_.out (by kernel_rfl)) (by decide) (fun K hK => ?_)
       refine gs_ Try.func22 #[.agg #[.slice A615_0 ((rd_T39 l0 x6_1).f0).length c615_0, .bool ((rd_T39 l0 x6_1).f1)], .agg #[.slice A1_0 l1_0.length c1_0, .int .i64 a1_1, .int .i64 a1_2, .string a1_3]] ?_
       with_reducible refine (spec_Tell.calls k1 _ _ ((rd_T39 l0 x6_1).f0) ((rd_T39 l0 x6_1).f1) _ _ l1_0 a1_1 a1_2 a1_3 t616 t619 _ ?side1 ?side2 ?side3 ?side4 A8.out).mono ?_
       (case side1 => exact cp_ ((Kd.C_below HR615_0.out HB.out)))
       (case side2 => exact HC615_0.out)
       (case side3 => exact cp_ ((Kd.C_below HR1_0.out HB.out)))
       (case side4 => exact HC1_0.out)
       rintro e w12 ⟨v617, rfl, ho0, hb⟩
       refine ⟨_, rfl, ?_⟩
       replace HO_5 := Aside0.mk (Kd.R_elder' (rp_ HO_5.out) (Kd.S_base ho0) hb)
       have HO618 := Aside0.mk (Kd.S_lower (Kd.S_newB ho0 (g := gb611) (o := .cells #[.slice A1_0 l1_0.length c1_0, .int .i64 a1_1, .int .i64 a1_2, .string a1_3] 44 (0, 0)) (pb_ BK611.out)) (below_size (hs_ HB.out)))
       replace BK611 := bk2_ BK611 hb
       replace BK620 := bk2_ BK620 hb
       replace HB := st_ HB hb
       (try clear hb)
       (try clear hk)
       (try clear ho0)
       refine hK.out _ _ ⟨bx_ BK611.out 0, bx_ BK611.out 1, bx_ BK611.out 2, bx_ BK611.out 3, ((HB.out.cell (World.block_lt_of_cell? w _ hw615_0)).trans hw615_0), ((HB.out.cell (World.block_lt_of_cell? w _ hw615_1)).trans hw615_1)⟩ (fun hHeld => ?_)
       clear hK K
       refine norm_ (a' := ?_) ?_ ?_
       rotate_left
       ·
        show Act.put _ (some 20) _ = _
        simp only [fr_]
        rfl
       exact norm_ (by simp only [putAll, fr_]) (hCont (v617, gb620) _ ⟨hHeld, (Kd.S_mono (sp_ HO618.out) (fun _ hk => hk.2)), (Kd.R_mono (rp_ HO_5.out) (fun _ hk => ⟨hk.2, ⟨hk.1.1, hk.1.2⟩⟩)), (pb_ BK611.out), (pb_ BK620.out), GW620.out, GE620.out, NB611_620.out, NB620_611.out, (hs_ HB.out)⟩)
      rintro ⟨v617, gb620⟩ w13 ⟨hS_, h0_, h1_, h2_, h3_, h4_, h5_, h6_, h7_, h8_⟩
      have HO618 : Aside0 (Kd.S k44 44 w13 w.heap.size (fun k_ => k_ ≠ gb611) v617 t616) := ⟨h0_⟩
      replace HO_5 : Aside0 (Kd.R k39 39 w13 w.heap.size (fun k_ => some k_ ≠ (v617 : Value).ownBlock ∧ k_ ≠ gb611 ∧ k_ ≠ gb620) u5 x5_1) := ⟨h1_⟩
      replace BK611 : Aside0 (w13.heap[gb611]? = some (.cells #[.slice A1_0 l1_0.length c1_0, .int .i64 a1_1, .int .i64 a1_2, .string a1_3] 44 (0, 0))) := ⟨h2_⟩
      have BK620 : Aside0 (w13.heap[gb620]? = some (.cells #[.slice none 0 0, .bool false] 39 (0, 0))) := ⟨h3_⟩
      have GW620 : Aside0 (w.heap.size ≤ gb620) := ⟨h4_⟩
      have GE620 := Ge_.mk h5_
      have NB611_620 := Ne_.mk h6_
      have NB620_611 := Ne_.mk h7_
      replace HB : Aside0 (Below w.heap.size w w13) := ⟨h8_⟩
      clear h0_ h1_ h2_ h3_ h4_ h5_ h6_ h7_ h8_
      have hHeld : w13.cell? ⟨gb611, 0, none⟩ = some (.slice A1_0 l1_0.length c1_0) ∧ w13.cell? ⟨gb611, 1, none⟩ = some (.int .i64 a1_1) ∧ w13.cell? ⟨gb611, 2, none⟩ = some (.int .i64 a1_2) ∧ w13.cell? ⟨gb611, 3, none⟩ = some (.string a1_3) ∧ w13.cell? (ad615.add ((x6_1).toNat * 2)) = some (.slice A615_0 ((rd_T39 l0 x6_1).f0).length c615_0) ∧ w13.cell? ⟨(ad615.add ((x6_1).toNat * 2)).block, (ad615.add ((x6_1).toNat * 2)).off + 1, none⟩ = some (.bool ((rd_T39 l0 x6_1).f1)) := hS_
      obtain ⟨Ao14, co14, eo14⟩ := Kd.S_slice HO618.out
      (first | subst eo14 | (obtain ⟨rfl, rfl⟩ := si_ eo14))
      refine norm_ (a' := ?_) ?_ ?_
      rotate_left
      ·
       simp only [putAll, fr_]
       rfl
      refine one_ (i := 7) (N := none) #[t_,t_,t_,t_,t_,t_,t_,t_] rfl rfl (one_of HT_.out (by kernel_rfl)) (by decide) (fun K hK => ?_)
      have hs15 : w13.cell? ⟨gb620, 0, none⟩ = some (.slice none 0 0) := bx_ BK620.out 0
      have hfs15 := blk_frozen BK620.out 0
      have hns15_0 := NB611_620.out
      have hms15_0 := NB620_611.out
      have hs16 : w13.cell? ⟨gb620, 1, none⟩ = some (.bool false) := bx_ BK620.out 1
      have hfs16 := blk_frozen BK620.out 1
      have hns16_0 := NB611_620.out
      have hms16_0 := NB620_611.out
      refine skip_ (w1 := ?_) (by rfl) rfl ?_ ?_
      rotate_left
      ·
       go_simp
       rfl
      refine hK.out _ _ ⟨(cg_ (hHeld.1)), (cg_ (hHeld.2.1)), (cg_ (hHeld.2.2.1)), (cg_ (hHeld.2.2.2.1)), (ce_ hw615_0 GW620.out ((ce_ hw615_0 GW620.out (hHeld.2.2.2.2.1)))), (ce_ hw615_1 GW620.out ((ce_ hw615_1 GW620.out (hHeld.2.2.2.2.2))))⟩ (fun hHeld => ?_)
      clear hK K
      refine done_ (done_of HT_.out (by kernel_rfl)) ?_
      generalize hw_ : ((w13.setCell ⟨gb620, 0, none⟩ (.slice Ao14 t616.length co14)).setCell ⟨gb620, 1, none⟩ (.bool t619)) = w17
      have n0_ : Aside0 (Kd.R k39 39 w17 w.heap.size (fun k_ => some k_ ≠ (.slice Ao14 t616.length co14 : Value).ownBlock ∧ k_ ≠ gb611 ∧ k_ ≠ gb620) u5 x5_1) := ⟨by rw [← hw_]; exact (Kd.R_mono (rf_ gb620 (Kd.R_mono HO_5.out (fun k_ hk => (⟨hk, hk.2.2⟩ : _ ∧ k_ ≠ gb620))) (fun _ hk => hk.2)) (fun _ hk => ⟨hk.1.1, ⟨hk.1.2.1, hk.1.2.2⟩⟩))⟩
      have n1_ : Aside0 (Kd.S k44 44 w17 w.heap.size (fun k_ => k_ ≠ gb611) (.slice Ao14 t616.length co14) t616) := ⟨by rw [← hw_]; exact (Kd.S_mono (sf_ gb620 (Kd.S_types HO618.out BK620.out (by decide)) (fun _ hk => hk.2)) (fun _ hk => hk.1))⟩
      have n2_ : Aside0 (w17.heap[gb611]? = some (.cells #[.slice A1_0 l1_0.length c1_0, .int .i64 a1_1, .int .i64 a1_2, .string a1_3] 44 (0, 0))) := ⟨by rw [← hw_]; exact (bq_ BK611.out)⟩
      have n3_ : Aside0 (w17.heap[gb620]? = some (.cells #[.slice Ao14 t616.length co14, .bool t619] 39 (0, 0))) := ⟨by rw [← hw_]; exact (bp_ BK620.out)⟩
      have n4_ : Aside0 (Below w.heap.size w w17) := ⟨by rw [← hw_]; exact (hs_ HB.out)⟩
      clear hw_
      (try clear HO_5)
      (try clear HO618)
      (try clear BK611)
      (try clear BK620)
      (try clear HB)
      have HO_5 := n0_
      have HO618 := n1_
      have BK611 := n2_
      have BK620 := n3_
      have HB := n4_
      clear n0_ n1_ n2_ n3_ n4_
      have hnb18 := NB620_611.out
      have hnc18 := NB611_620.out
      obtain ⟨z19_0, z19_1, y19_0, y19_1⟩ := bc2_ BK620.out
      try go_wp2_with (first | ((with_reducible refine gate_builtin (b := .append) (xs := #[.tmp 21, .tmp 23]) rfl ?_); at_builtin; refine Kd.R_append k39 (w0 := w) w.heap.size rfl (.tmp 21) (.tmp 23) 62 39 (.agg #[(.slice none 0 0), (.bool false)]) 32 rfl Try.underlying62 info39 rfl (by decide) (by omega) u5 x5_1 (⟨t616, t619⟩ : S39) [.slice Ao14 t616.length co14, .bool t619] (fun k_ => k_ ≠ gb611 ∧ k_ ≠ gb620) (fun k_ => ((fun k_ => k_ ≠ gb611 ∧ k_ ≠ gb620)) k_ ∧ some k_ ≠ (u5 : Value).ownBlock) rfl rfl ?aP (fun _ hk => hk) ?aF ?aO ?aB ?aS ?aL ?_; (case aP => exact k39_mkM _ _ _ (⟨t616, t619⟩ : S39) (Kd.R_mono (Kd.R_types (Kd.R_apart' ((Kd.S_R HO618.out)) (Kd.R_typed HO_5.out) (by decide)) BK620.out (by decide)) (fun k_ hk => ⟨⟨hk.1.1, hk.2⟩, hk.1.2⟩))); (case aB => exact (hs_ HB.out)); (case aF => exact (fun k_ hk => ⟨Kd.freshB (g := gb611) (o := .cells #[.slice A1_0 l1_0.length c1_0, .int .i64 a1_1, .int .i64 a1_2, .string a1_3] 44 (0, 0)) (pb_ BK611.out) k_ hk, Kd.freshB (g := gb620) (o := .cells #[.slice Ao14 t616.length co14, .bool t619] 39 (0, 0)) (pb_ BK620.out) k_ hk⟩)); (case aO => exact (Kd.R_mono (rp_ HO_5.out) (fun _ hk => ⟨hk.2.1, hk.2.2⟩))); (case aS => exact (below_size (hs_ HB.out))); (case aL => have := LMc9.out; omega); intro v622 w20 ho hb hg hat; rw [← Ny621.out] at ho; replace BK611 := Aside0.mk (blk_grown (bq_ BK611.out) hg (Kd.R_ne HO_5.out BK611.out (by decide))); replace BK620 := Aside0.mk (blk_grown (bq_ BK620.out) hg (Kd.R_away HO_5.out (fun _ hk => hk.2.2))); replace HB := Aside0.mk (hb); have HO623 := Aside0.mk (ho); clear HO_5 HO618; clear ho hb hg hat))
      go_roundg k1
      case measure => have := HK1.out; omega
      case rel => exact ⟨(y621), (wrap64 (x6_1 + 1)), (by first | rfl | (simp; done) | (simp [*]; done)), H', ⟨by have := HK1.out; omega⟩, ⟨by (with_reducible repeat (first | apply Kd.R_alloc | apply Kd.R_drewN | apply Kd.R_drew)); exact Kd.R_mono HO623.out (fun _ hk => hk.1)⟩, ⟨bq_ BK611.out⟩, ⟨by exact hs_ HB.out⟩⟩
     rw [if_neg c9] at H
     exact absurd H (by simp)
    rw [if_neg c7] at H
    exact absurd H (by simp)
   rw [if_neg c6] at H
   have c6b0 : decide (x6_1 < (l0.length : Int)) = false := decide_eq_false c6
   clear c6
   obtain rfl := Option.some.inj H
   go_wp2
   go_ret
   exact ⟨_, by first | rfl | (simp [errW_none, errW_some] <;> rfl) | (simp [*, errW_none, errW_some] <;> rfl), by (with_reducible repeat (first | apply Kd.R_alloc | apply Kd.R_drewN | apply Kd.R_drew)); exact Kd.R_mono HO_5.out (fun _ hk => trivial), by exact hs_ HB.out⟩
def impl_TellAll.l0 : Nat → List (S39) → List (S39) → Int → Int → List (S164) → Int → Int → ByteArray → Option ((List (S39)))
 | 0, _, _, _, _, _, _, _, _ => none
 | k + 1, x5, x8, x9, x10, x634000, x634001, x634002, x634003 => if x10 < x9 then (if 0 ≤ x10 then (if x10 < (x8.length : Int) then ((impl_Tell.f k ((rd_T39 x8 x10).f0) ((rd_T39 x8 x10).f1) x634000 x634001 x634002 x634003).bind fun bt636 => (if x5.length < 4398046511104 then (impl_TellAll.l0 k (x5 ++ [(⟨bt636.1, bt636.2⟩ : S39)]) x8 x9 (wrap64 (x10 + 1)) x634000 x634001 x634002 x634003) else (none))) else (none)) else (none)) else (some x5)
def impl_TellAll.f (k : Nat) (l0 : List (S39)) (l1_0 : List (S164)) (a1_1 : Int) (a1_2 : Int) (a1_3 : ByteArray) : Option ((List (S39))) := impl_TellAll.l0 k ([] : List (S39)) l0 (l0.length : Int) 0 l1_0 a1_1 a1_2 a1_3
theorem impl_TellAll.mono_l : ∀ k, (∀ y0 y1 y2 y3 y4 y5 y6 y7, LeO (impl_TellAll.l0 k y0 y1 y2 y3 y4 y5 y6 y7) (impl_TellAll.l0 (k + 1) y0 y1 y2 y3 y4 y5 y6 y7))
 | 0 => fun _ _ _ _ _ _ _ _ r h => by simp [impl_TellAll.l0] at h
 | k + 1 => by
  have ih0 := impl_TellAll.mono_l k
  intro y0 y1 y2 y3 y4 y5 y6 y7
  unfold impl_TellAll.l0
  repeat' first
  | (with_reducible exact ih0 _ _ _ _ _ _ _ _)
  | (with_reducible exact impl_Tell.mono _ _ _ _ _ _ _)
  | (with_reducible exact LeO.refl _)
  | (with_reducible exact LeO.none _)
  | (with_reducible refine LeO.ite ?_ ?_)
  | (with_reducible refine LeO.bind ?_ (fun _ => ?_))
  | exact ih0 _ _ _ _ _ _ _ _
  | exact impl_Tell.mono _ _ _ _ _ _ _
theorem impl_TellAll.mono : ∀ a0 a1 a2 a3 a4 k, LeO (impl_TellAll.f k a0 a1 a2 a3 a4) (impl_TellAll.f (k + 1) a0 a1 a2 a3 a4) := by
 intro a0 a1 a2 a3 a4 k
 have ih0 := impl_TellAll.mono_l k
 unfold impl_TellAll.f
 repeat' first | (with_reducible first | exact ih0 _ _ _ _ _ _ _ _ | exact impl_Tell.mono _ _ _ _ _ _ _ | exact LeO.refl _ | exact LeO.none _ | refine LeO.ite ?_ ?_ | refine LeO.bind ?_ (fun _ => ?_)) | exact ih0 _ _ _ _ _ _ _ _ | exact impl_Tell.mono _ _ _ _ _ _ _
theorem impl_TellAll.calls (k : Nat) (A0 : Option Addr) (c0 : Nat) (l0 : List (S39)) (A1_0 : Option Addr) (c1_0 : Nat) (l1_0 : List (S164)) (a1_1 : Int) (a1_2 : Int) (a1_3 : ByteArray) (r : List (S39)) (w : World) (hr0 : Kd.C k39 w A0 l0.length l0) (hc0 : l0.length ≤ c0) (hr1_0 : Kd.C k164 w A1_0 l1_0.length l1_0) (hc1_0 : l1_0.length ≤ c1_0) (h : impl_TellAll.f k l0 l1_0 a1_1 a1_2 a1_3 = some r) :
  Calls Try.prog 44 #[.slice A0 l0.length c0, .agg #[.slice A1_0 l1_0.length c1_0, .int .i64 a1_1, .int .i64 a1_2, .string a1_3]] w fun e w' => ∃ v0_ : Value, e = .returned (v0_) ∧ Kd.R k39 39 w' w.heap.size (fun _ => True) v0_ r ∧ Below w.heap.size w w' := by
 have hu44 := Try.underlying44
 have hu39 := Try.underlying39
 have HR0 := Aside0.mk hr0
 have HC0 := Aside0.mk hc0
 clear hr0 hc0
 have HR1_0 := Aside0.mk hr1_0
 have HC1_0 := Aside0.mk hc1_0
 clear hr1_0 hc1_0
 have HB := Aside0.mk (Below.refl w.heap.size w)
 have H : (impl_TellAll.l0 k ([] : List (S39)) l0 (l0.length : Int) 0 l1_0 a1_1 a1_2 a1_3) = some r := h
 clear h
 have H' := Aside0.mk H
 clear H
 go_enter Try.func44, Try.ntmps44
 go_wp2_with (first | ((with_reducible refine gd_ 3 rfl ?_); refine bv_ 3 #[.slice A1_0 l1_0.length c1_0, .int .i64 a1_1, .int .i64 a1_2, .string a1_3] 44 ?_; intro gb633 hg w3 hbox hb; have BK633 := Aside0.mk (hbox); have GW633 := Aside0.mk ((gw_ hg (hs_ HB.out))); replace HB := st_ HB hb; have GE633 := Ge_.mk GW633.out; clear hb hbox hg))
 go_loopg [5, 10] k (fun kq v5 v10 w' => ∃ (x5_1 : List (S39)) (x10_1 : Int), v10 = .int .i64 x10_1 ∧ Aside0 (impl_TellAll.l0 kq x5_1 l0 (l0.length : Int) x10_1 l1_0 a1_1 a1_2 a1_3 = some r) ∧ Aside0 (kq ≤ k) ∧ Aside0 (Kd.R k39 39 w' w.heap.size (fun k_ => k_ ≠ gb633) v5 x5_1) ∧ Aside0 (w'.heap[gb633]? = some (.cells #[(.slice A1_0 l1_0.length c1_0), .int .i64 a1_1, .int .i64 a1_2, .string a1_3] 44 (0, 0))) ∧ Aside0 (Below w.heap.size w w'))
 case atStart => exact ⟨(([] : List (S39))), (0), (by first | rfl | (simp; done) | (simp [*]; done)), H', ⟨Nat.le_refl _⟩, ⟨by first | exact Kd.R_nil _ _ _ _ _ | exact Kd.N_nil _ _ _ _ _ | exact Kd.V_nil _ _ _ _ _ | exact Kd.Q_nil _ _ _ _ _ | exact Kd.S_nil _ _ _ _ _⟩, ⟨bq_ BK633.out⟩, ⟨by exact hs_ HB.out⟩⟩
 case round =>
  clear H'
  try clear c1
  try clear p2
  obtain ⟨x5_1, x10_1, rfl, HA, HK1, HO_5, BK633, HB⟩ := hrel
  cases gk with
  | zero => exact absurd HA.out (by simp [impl_TellAll.l0])
  | succ k1 =>
   have H := HA.out
   clear HA
   simp only [impl_TellAll.l0] at H
   by_cases c4 : x10_1 < (l0.length : Int)
   ·
    rw [if_pos c4] at H
    have c4b0 := decide_eq_true c4
    clear c4
    by_cases c5 : 0 ≤ x10_1
    ·
     rw [if_pos c5] at H
     have c5b0 := decide_eq_true c5
     clear c5
     by_cases c6 : x10_1 < (l0.length : Int)
     ·
      rw [if_pos c6] at H
      have c6b0 := decide_eq_true c6
      clear c6
      replace H := Option.bind_eq_some_iff.mp H
      obtain ⟨⟨t636, t639⟩, A70, H⟩ := H
      have A7 := Aside0.mk A70
      clear A70
      by_cases c8 : x5_1.length < 4398046511104
      ·
       rw [if_pos c8] at H
       have LMc8 := Aside0.mk c8
       clear c8
       obtain ⟨y640, hy640⟩ : ∃ y_ : List (S39), y_ = (x5_1 ++ [(⟨t636, t639⟩ : S39)]) := ⟨_, rfl⟩
       replace H : (impl_TellAll.l0 k1 y640 l0 (l0.length : Int) (wrap64 (x10_1 + 1)) l1_0 a1_1 a1_2 a1_3) = some r := by first | (rw [hy640]; with_reducible exact H) | (have H2_ := (Option.bind_some _ _).symm.trans H; rw [hy640]; with_reducible exact H2_) | (have H2_ := (Option.bind_some _ _).symm.trans H; with_reducible exact H2_) | with_reducible exact H | (rw [hy640]; exact H) | exact H
       have Ny640 := Aside0.mk hy640
       clear hy640
       have H' := Aside0.mk H
       clear H
       have p634 : 0 ≤ (x10_1 : Int) := of_decide_eq_true (by with_reducible assumption)
       have q634 : x10_1 < (l0.length : Int) := of_decide_eq_true (by with_reducible assumption)
       obtain ⟨ad634, A634_0, c634_0, e634, hx634_0, hx634_1, hl634_0, hi634_0⟩ := at_T39 HR0.out x10_1 p634 q634
       cases e634
       replace hx634_0 := cl_ HB.out hx634_0
       replace hx634_1 := cl_ HB.out hx634_1
       have HR634_0 := Aside0.mk hi634_0
       have HC634_0 := Aside0.mk hl634_0
       clear hi634_0 hl634_0
       replace p634 := eq_true p634
       replace q634 := eq_true q634
       go_wp2_with (first | ((with_reducible refine gd_ 7 rfl ?_); refine bv_ 7 #[.slice none 0 0, .bool false] 39 ?_; intro gb635 hg w9 hbox hb; replace HO_5 := Aside0.mk (Kd.R_below (Kd.R_elderB (rp_ HO_5.out) gb635 (Nat.le_of_eq hg.symm)) hb); have BK635 := Aside0.mk (hbox); have GW635 := Aside0.mk ((gw_ hg (hs_ HB.out))); replace HB := st_ HB hb; have GE635 := Ge_.mk GW635.out; have NB633_635 := Ne_.mk (nl_ BK633.out hg); replace BK633 := bk2_ BK633 hb; have NB635_633 := Ne_.mk (NB633_635.out.symm); clear hb hbox hg; have hnb10 := NB635_633.out; have hnc10 := NB633_635.out; obtain ⟨z11_0, z11_1, y11_0, y11_1⟩ := bc2_ BK635.out; obtain ⟨z12_0, z12_1, z12_2, z12_3, y12_0, y12_1, y12_2, y12_3⟩ := bc4_ BK633.out) | ((with_reducible refine gate_callee (f := 25) rfl ?_); refine gl_ (some 17) Try.func25 #[.agg #[.slice A634_0 ((rd_T39 l0 x10_1).f0).length c634_0, .bool ((rd_T39 l0 x10_1).f1)], .agg #[.slice A1_0 l1_0.length c1_0, .int .i64 a1_1, .int .i64 a1_2, .string a1_3]] ?_; (with_reducible refine (impl_Tell.calls k1 _ _ ((rd_T39 l0 x10_1).f0) ((rd_T39 l0 x10_1).f1) _ _ l1_0 a1_1 a1_2 a1_3 t636 t639 _ ?side1 ?side2 ?side3 ?side4 A7.out).mono ?_); (case side1 => exact Kd.C_below HR634_0.out (hs_ HB.out)); (case side2 => exact HC634_0.out); (case side3 => exact Kd.C_below HR1_0.out (hs_ HB.out)); (case side4 => exact HC1_0.out); rintro e w13 ⟨v637, rfl, ho0, hb⟩; refine ⟨_, rfl, ?_⟩; replace HO_5 := Aside0.mk (Kd.R_elder' (by (with_reducible repeat (first | apply Kd.R_alloc | apply Kd.R_drewN | apply Kd.R_drew)); exact (Kd.R_mono (rf_ gb635 (Kd.R_mono HO_5.out (fun k_ hk => (⟨hk, hk.2⟩ : _ ∧ k_ ≠ gb635))) (fun _ hk => hk.2)) (fun _ h_ => h_.1))) (Kd.S_base ho0) hb); have HO638 := Aside0.mk (Kd.S_lower (Kd.S_newB ho0 (g := gb633) (o := .cells #[.slice A1_0 l1_0.length c1_0, .int .i64 a1_1, .int .i64 a1_2, .string a1_3] 44 (0, 0)) (bq_ BK633.out)) (below_size (hs_ HB.out))); replace BK633 := bk2_ BK633 hb; replace BK635 := Aside0.mk (blk_below (g := gb635) (o := .cells #[.slice A634_0 ((rd_T39 l0 x10_1).f0).length c634_0, .bool ((rd_T39 l0 x10_1).f1)] 39 (0, 0)) (bp_ BK635.out) hb); replace HB := st_ HB hb; (try clear hb); (try clear hk); (try clear ho0); obtain ⟨Ao15, co15, eo15⟩ := Kd.S_slice HO638.out; subst eo15) | ((with_reducible refine gate_builtin (b := .append) (xs := #[.tmp 14, .tmp 18]) rfl ?_); at_builtin; refine Kd.R_append k39 (w0 := w) w.heap.size rfl (.tmp 14) (.tmp 18) 62 39 (.agg #[(.slice none 0 0), (.bool false)]) 32 rfl Try.underlying62 info39 rfl (by decide) (by omega) u5 x5_1 (⟨t636, t639⟩ : S39) [.slice Ao15 t636.length co15, .bool t639] (fun k_ => k_ ≠ gb633 ∧ k_ ≠ gb635) (fun k_ => ((fun k_ => k_ ≠ gb633 ∧ k_ ≠ gb635)) k_ ∧ some k_ ≠ (u5 : Value).ownBlock) rfl rfl ?aP (fun _ hk => hk) ?aF ?aO ?aB ?aS ?aL ?_; (case aP => exact k39_mkM _ _ _ (⟨t636, t639⟩ : S39) (Kd.R_mono (Kd.R_types (Kd.R_apart' ((Kd.S_R HO638.out)) (Kd.R_typed HO_5.out) (by decide)) BK635.out (by decide)) (fun k_ hk => ⟨⟨hk.1.1.2, hk.2⟩, hk.1.2⟩))); (case aB => exact (hs_ HB.out)); (case aF => exact (fun k_ hk => ⟨Kd.freshB (g := gb633) (o := .cells #[.slice A1_0 l1_0.length c1_0, .int .i64 a1_1, .int .i64 a1_2, .string a1_3] 44 (0, 0)) (pb_ BK633.out) k_ hk, Kd.freshB (g := gb635) (o := .cells #[.slice A634_0 ((rd_T39 l0 x10_1).f0).length c634_0, .bool ((rd_T39 l0 x10_1).f1)] 39 (0, 0)) (pb_ BK635.out) k_ hk⟩)); (case aO => exact (Kd.R_mono (rp_ HO_5.out) (fun _ hk => ⟨hk.1.1, hk.1.2⟩))); (case aS => exact (below_size (hs_ HB.out))); (case aL => have := LMc8.out; omega); intro v641 w14 ho hb hg hat; rw [← Ny640.out] at ho; replace BK633 := Aside0.mk (blk_grown (bq_ BK633.out) hg (Kd.R_ne HO_5.out BK633.out (by decide))); replace BK635 := Aside0.mk (blk_grown (bq_ BK635.out) hg (Kd.R_away HO_5.out (fun _ hk => hk.1.2))); replace HB := Aside0.mk (hb); have HO642 := Aside0.mk (ho); clear HO_5 HO638; clear ho hb hg hat))
       go_roundg k1
       case measure => have := HK1.out; omega
       case rel => exact ⟨(y640), (wrap64 (x10_1 + 1)), (by first | rfl | (simp; done) | (simp [*]; done)), H', ⟨by have := HK1.out; omega⟩, ⟨by (with_reducible repeat (first | apply Kd.R_alloc | apply Kd.R_drewN | apply Kd.R_drew)); exact Kd.R_mono HO642.out (fun _ hk => hk.1)⟩, ⟨bq_ BK633.out⟩, ⟨by exact hs_ HB.out⟩⟩
      rw [if_neg c8] at H
      exact absurd H (by simp)
     rw [if_neg c6] at H
     exact absurd H (by simp)
    rw [if_neg c5] at H
    exact absurd H (by simp)
   rw [if_neg c4] at H
   have c4b0 : decide (x10_1 < (l0.length : Int)) = false := decide_eq_false c4
   clear c4
   obtain rfl := Option.some.inj H
   go_wp2
   go_ret
   exact ⟨_, by first | rfl | (simp [errW_none, errW_some] <;> rfl) | (simp [*, errW_none, errW_some] <;> rfl), by (with_reducible repeat (first | apply Kd.R_alloc | apply Kd.R_drewN | apply Kd.R_drew)); exact Kd.R_mono HO_5.out (fun _ hk => trivial), by exact hs_ HB.out⟩
theorem eqA164 (d : Nat) (w : World) (x0 y0 : ByteArray) (x1 y1 : ByteArray) :
  (Op.equalIn (d + 2) 164 (.agg #[.string x0, .string x1]) (.agg #[.string y0, .string y1])).run Try.prog w = .ok (x0.toList == y0.toList && (x1.toList == y1.toList)) w := by
 refine eqA_of Try.underlying164 (by kernel_rfl) ?_
 refine eqf_cons (by rfl) (by go_simp; rfl) (by go_simp; rfl) (by go_simp) ?_
 exact eqf_last (by rfl) (by go_simp; rfl) (by go_simp; rfl) (by go_simp)
end Go.Proofs.Ytfholjcelnkleaa.Print
end
section
namespace Go.Proofs.Ytfholjcelnkleaa.Print
open Go.RowKit Go.Proofs.YtfholjcelnkleaaV.PrintWords Go.Proofs.YtfholjcelnkleaaV.PrintLast Go.Proofs.YtfholjcelnkleaaV.PrintMore
attribute [local go_sem] max2_int min2_int max_two min_two max_three min_three max_four min_four
set_option linter.unusedVariables false
set_option linter.unusedSimpArgs false

attribute [local go_sem high] eqA164
set_option maxHeartbeats 8000000
set_option maxRecDepth 100000
def impl_SameSet.l0 : Nat → List (S164) → List (S164) → Int → Int → Option (Bool)
 | 0, _, _, _, _ => none
 | k + 1, x0, x1, x12, x13 => if x13 < x12 then (if 0 ≤ x13 then (if x13 < (x0.length : Int) then (if x13 < (x1.length : Int) then (if (!((((rd_T164 x0 x13).f0).toList) == (((rd_T164 x1 x13).f0).toList)) || (!((((rd_T164 x0 x13).f1).toList) == (((rd_T164 x1 x13).f1).toList)))) = true then (some false) else (impl_SameSet.l0 k x0 x1 x12 (wrap64 (x13 + 1)))) else (none)) else (none)) else (none)) else (some true)
def impl_SameSet.f (k : Nat) (l0 : List (S164)) (l1 : List (S164)) : Option (Bool) := if (l0.length : Int) = (l1.length : Int) then (impl_SameSet.l0 k l0 l1 (l0.length : Int) 0) else (some false)
theorem impl_SameSet.mono_l : ∀ k, (∀ y0 y1 y2 y3, LeO (impl_SameSet.l0 k y0 y1 y2 y3) (impl_SameSet.l0 (k + 1) y0 y1 y2 y3))
 | 0 => fun _ _ _ _ r h => by simp [impl_SameSet.l0] at h
 | k + 1 => by
  have ih0 := impl_SameSet.mono_l k
  intro y0 y1 y2 y3
  unfold impl_SameSet.l0
  repeat' first
  | (with_reducible exact ih0 _ _ _ _)
  | (with_reducible exact LeO.refl _)
  | (with_reducible exact LeO.none _)
  | (with_reducible refine LeO.ite ?_ ?_)
  | (with_reducible refine LeO.bind ?_ (fun _ => ?_))
  | exact ih0 _ _ _ _
theorem impl_SameSet.mono : ∀ a0 a1 k, LeO (impl_SameSet.f k a0 a1) (impl_SameSet.f (k + 1) a0 a1) := by
 intro a0 a1 k
 have ih0 := impl_SameSet.mono_l k
 unfold impl_SameSet.f
 repeat' first | (with_reducible first | exact ih0 _ _ _ _ | exact LeO.refl _ | exact LeO.none _ | refine LeO.ite ?_ ?_ | refine LeO.bind ?_ (fun _ => ?_)) | exact ih0 _ _ _ _
theorem impl_SameSet.calls (k : Nat) (A0 : Option Addr) (c0 : Nat) (l0 : List (S164)) (A1 : Option Addr) (c1 : Nat) (l1 : List (S164)) (r : Bool) (w : World) (hr0 : Kd.C k164 w A0 l0.length l0) (hc0 : l0.length ≤ c0) (hr1 : Kd.C k164 w A1 l1.length l1) (hc1 : l1.length ≤ c1) (h : impl_SameSet.f k l0 l1 = some r) :
  Calls Try.prog 139 #[.slice A0 l0.length c0, .slice A1 l1.length c1] w fun e w' => e = .returned (.bool r) ∧ Drawn0 w w' := by
 have hu164 := Try.underlying164
 have HR0 := Aside0.mk hr0
 have HC0 := Aside0.mk hc0
 clear hr0 hc0
 have HR1 := Aside0.mk hr1
 have HC1 := Aside0.mk hc1
 clear hr1 hc1
 have H : (if (l0.length : Int) = (l1.length : Int) then (impl_SameSet.l0 k l0 l1 (l0.length : Int) 0) else (some false)) = some r := h
 clear h
 by_cases c3 : (l0.length : Int) = (l1.length : Int)
 ·
  rw [if_pos c3] at H
  have c3b0 : ((l0.length : Int) == (l1.length : Int)) = true := beq_iff_eq.mpr c3
  have c3b1 : ((l0.length : Int) != (l1.length : Int)) = false := bne_eq_false_iff_eq.mpr c3
  have c3b2 : (l0.length == l1.length) = true := by first | simpa using c3 | (simp at c3 ⊢; omega)
  clear c3
  have H' := Aside0.mk H
  clear H
  go_enter Try.func139, Try.ntmps139
  go_wp2
  repeat (go_quiet (fail); try go_wp2)
  go_loopg [13] k (fun kq v13 w' => ∃ (x13_1 : Int), v13 = .int .i64 x13_1 ∧ Aside0 (impl_SameSet.l0 kq l0 l1 (l0.length : Int) x13_1 = some r) ∧ Aside0 (kq ≤ k) ∧ Drawn0 w w')
  case atStart => exact ⟨(0), (by first | rfl | (simp; done) | (simp [*]; done)), H', ⟨Nat.le_refl _⟩, by repeat (first | exact Drawn0.refl _ | apply Drawn0.step)⟩
  case round =>
   clear H'
   try clear c1
   try clear p2
   try clear c3
   try clear c3b0
   try clear c3b1
   try clear c3b2
   obtain ⟨x13_1, rfl, HA, HK1, ⟨m1, rfl⟩⟩ := hrel
   cases gk with
   | zero => exact absurd HA.out (by simp [impl_SameSet.l0])
   | succ k1 =>
    have H := HA.out
    clear HA
    simp only [impl_SameSet.l0] at H
    by_cases c4 : x13_1 < (l0.length : Int)
    ·
     rw [if_pos c4] at H
     have c4b0 := decide_eq_true c4
     clear c4
     by_cases c5 : 0 ≤ x13_1
     ·
      rw [if_pos c5] at H
      have c5b0 := decide_eq_true c5
      clear c5
      by_cases c6 : x13_1 < (l0.length : Int)
      ·
       rw [if_pos c6] at H
       have c6b0 := decide_eq_true c6
       clear c6
       by_cases c7 : x13_1 < (l1.length : Int)
       ·
        rw [if_pos c7] at H
        have c7b0 := decide_eq_true c7
        clear c7
        by_cases c8 : (!((((rd_T164 l0 x13_1).f0).toList) == (((rd_T164 l1 x13_1).f0).toList)) || (!((((rd_T164 l0 x13_1).f1).toList) == (((rd_T164 l1 x13_1).f1).toList)))) = true
        ·
         rw [if_pos c8] at H
         have c8b0 : (!((((rd_T164 l0 x13_1).f0).toList) == (((rd_T164 l1 x13_1).f0).toList)) || (!((((rd_T164 l0 x13_1).f1).toList) == (((rd_T164 l1 x13_1).f1).toList)))) = true := c8
         clear c8
         obtain rfl := Option.some.inj H
         have p812 : 0 ≤ (x13_1 : Int) := of_decide_eq_true (by with_reducible assumption)
         have q812 : x13_1 < (l0.length : Int) := of_decide_eq_true (by with_reducible assumption)
         obtain ⟨ad812, e812, hx812_0, hx812_1⟩ := at_T164 HR0.out x13_1 p812 q812
         cases e812
         replace p812 := eq_true p812
         replace q812 := eq_true q812
         have p813 : 0 ≤ (x13_1 : Int) := of_decide_eq_true (by with_reducible assumption)
         have q813 : x13_1 < (l1.length : Int) := of_decide_eq_true (by with_reducible assumption)
         obtain ⟨ad813, e813, hx813_0, hx813_1⟩ := at_T164 HR1.out x13_1 p813 q813
         cases e813
         replace p813 := eq_true p813
         replace q813 := eq_true q813
         go_wp2
         repeat (go_quiet (fail); try go_wp2)
         go_ret
         exact ⟨by first | rfl | (simp; done) | (simp [*]; done), by repeat (first | exact Drawn0.refl _ | apply Drawn0.step)⟩
        rw [if_neg c8] at H
        have c8b0 : (!((((rd_T164 l0 x13_1).f0).toList) == (((rd_T164 l1 x13_1).f0).toList)) || (!((((rd_T164 l0 x13_1).f1).toList) == (((rd_T164 l1 x13_1).f1).toList)))) = false := by simpa using c8
        clear c8
        have H' := Aside0.mk H
        clear H
        have p812 : 0 ≤ (x13_1 : Int) := of_decide_eq_true (by with_reducible assumption)
        have q812 : x13_1 < (l0.length : Int) := of_decide_eq_true (by with_reducible assumption)
        obtain ⟨ad812, e812, hx812_0, hx812_1⟩ := at_T164 HR0.out x13_1 p812 q812
        cases e812
        replace p812 := eq_true p812
        replace q812 := eq_true q812
        have p813 : 0 ≤ (x13_1 : Int) := of_decide_eq_true (by with_reducible assumption)
        have q813 : x13_1 < (l1.length : Int) := of_decide_eq_true (by with_reducible assumption)
        obtain ⟨ad813, e813, hx813_0, hx813_1⟩ := at_T164 HR1.out x13_1 p813 q813
        cases e813
        replace p813 := eq_true p813
        replace q813 := eq_true q813
        go_wp2
        repeat (go_quiet (fail); try go_wp2)
        go_roundg k1
        case measure => have := HK1.out; omega
        case rel => exact ⟨(wrap64 (x13_1 + 1)), (by first | rfl | (simp; done) | (simp [*]; done)), H', ⟨by have := HK1.out; omega⟩, by repeat (first | exact Drawn0.refl _ | apply Drawn0.step)⟩
       rw [if_neg c7] at H
       exact absurd H (by simp)
      rw [if_neg c6] at H
      exact absurd H (by simp)
     rw [if_neg c5] at H
     exact absurd H (by simp)
    rw [if_neg c4] at H
    have c4b0 : decide (x13_1 < (l0.length : Int)) = false := decide_eq_false c4
    clear c4
    obtain rfl := Option.some.inj H
    go_wp2
    repeat (go_quiet (fail); try go_wp2)
    go_ret
    exact ⟨by first | rfl | (simp; done) | (simp [*]; done), by repeat (first | exact Drawn0.refl _ | apply Drawn0.step)⟩
 rw [if_neg c3] at H
 have c3b0 : ((l0.length : Int) == (l1.length : Int)) = false := beq_eq_false_iff_ne.mpr c3
 have c3b1 : ((l0.length : Int) != (l1.length : Int)) = true := bne_iff_ne.mpr c3
 have c3b2 : (l0.length == l1.length) = false := by first | simpa using c3 | (simp at c3 ⊢; omega)
 obtain rfl := Option.some.inj H
 go_enter Try.func139, Try.ntmps139
 go_wp2
 repeat (go_quiet (fail); try go_wp2)
 go_ret
 exact ⟨by first | rfl | (simp; done) | (simp [*]; done), by repeat (first | exact Drawn0.refl _ | apply Drawn0.step)⟩
end Go.Proofs.Ytfholjcelnkleaa.Print
end
section
namespace Go.Proofs.Ytfholjcelnkleaa.Print
open Go.RowKit Go.Proofs.YtfholjcelnkleaaV.PrintWords Go.Proofs.YtfholjcelnkleaaV.PrintLast Go.Proofs.YtfholjcelnkleaaV.PrintMore
attribute [local go_sem] max2_int min2_int max_two min_two max_three min_three max_four min_four
set_option linter.unusedVariables false
set_option linter.unusedSimpArgs false
set_option maxHeartbeats 8000000
set_option maxRecDepth 100000
def impl_SameAlarm.f (k : Nat) (l0_0 : List (S164)) (a0_1 : Int) (a0_2 : Int) (a0_3 : ByteArray) (l1_0 : List (S164)) (a1_1 : Int) (a1_2 : Int) (a1_3 : ByteArray) : Option (Bool) := (impl_SameSet.f k l0_0 l1_0).bind fun t1285 => (if t1285 = true then (if a0_1 = a1_1 then (if a0_2 = a1_2 then (some (a0_3.toList == a1_3.toList)) else (some false)) else (some false)) else (some false))
theorem impl_SameAlarm.mono : ∀ a0 a1 a2 a3 a4 a5 a6 a7 k, LeO (impl_SameAlarm.f k a0 a1 a2 a3 a4 a5 a6 a7) (impl_SameAlarm.f (k + 1) a0 a1 a2 a3 a4 a5 a6 a7) := by
 intro a0 a1 a2 a3 a4 a5 a6 a7 k
 unfold impl_SameAlarm.f
 repeat' first | (with_reducible first | exact impl_SameSet.mono _ _ _ | exact LeO.refl _ | exact LeO.none _ | refine LeO.ite ?_ ?_ | refine LeO.bind ?_ (fun _ => ?_)) | exact impl_SameSet.mono _ _ _
theorem impl_SameAlarm.calls (k : Nat) (A0_0 : Option Addr) (c0_0 : Nat) (l0_0 : List (S164)) (a0_1 : Int) (a0_2 : Int) (a0_3 : ByteArray) (A1_0 : Option Addr) (c1_0 : Nat) (l1_0 : List (S164)) (a1_1 : Int) (a1_2 : Int) (a1_3 : ByteArray) (r : Bool) (w : World) (hr0_0 : Kd.C k164 w A0_0 l0_0.length l0_0) (hc0_0 : l0_0.length ≤ c0_0) (hr1_0 : Kd.C k164 w A1_0 l1_0.length l1_0) (hc1_0 : l1_0.length ≤ c1_0) (h : impl_SameAlarm.f k l0_0 a0_1 a0_2 a0_3 l1_0 a1_1 a1_2 a1_3 = some r) :
  Calls Try.prog 85 #[.agg #[.slice A0_0 l0_0.length c0_0, .int .i64 a0_1, .int .i64 a0_2, .string a0_3], .agg #[.slice A1_0 l1_0.length c1_0, .int .i64 a1_1, .int .i64 a1_2, .string a1_3]] w fun e w' => e = .returned (.bool r) ∧ Below w.heap.size w w' := by
 have hu44 := Try.underlying44
 have HR0_0 := Aside0.mk hr0_0
 have HC0_0 := Aside0.mk hc0_0
 clear hr0_0 hc0_0
 have HR1_0 := Aside0.mk hr1_0
 have HC1_0 := Aside0.mk hc1_0
 clear hr1_0 hc1_0
 have HB := Aside0.mk (Below.refl w.heap.size w)
 have H : ((impl_SameSet.f k l0_0 l1_0).bind fun t1285 => (if t1285 = true then (if a0_1 = a1_1 then (if a0_2 = a1_2 then (some (a0_3.toList == a1_3.toList)) else (some false)) else (some false)) else (some false))) = some r := h
 clear h
 replace H := Option.bind_eq_some_iff.mp H
 obtain ⟨t1285, A30, H⟩ := H
 have A3 := Aside0.mk A30
 clear A30
 by_cases c4 : t1285 = true
 ·
  subst c4
  rw [if_pos rfl] at H
  by_cases c5 : a0_1 = a1_1
  ·
   rw [if_pos c5] at H
   have c5b0 : (a0_1 == a1_1) = true := beq_iff_eq.mpr c5
   have c5b1 : (a0_1 != a1_1) = false := bne_eq_false_iff_eq.mpr c5
   clear c5
   by_cases c6 : a0_2 = a1_2
   ·
    rw [if_pos c6] at H
    have c6b0 : (a0_2 == a1_2) = true := beq_iff_eq.mpr c6
    have c6b1 : (a0_2 != a1_2) = false := bne_eq_false_iff_eq.mpr c6
    clear c6
    obtain rfl := Option.some.inj H
    go_enter Try.func85, Try.ntmps85
    go_wp2_with (first | ((with_reducible refine gd_ 2 rfl ?_); refine bv_ 2 #[.slice A0_0 l0_0.length c0_0, .int .i64 a0_1, .int .i64 a0_2, .string a0_3] 44 ?_; intro gb1283 hg w7 hbox hb; have BK1283 := Aside0.mk (hbox); have GW1283 := Aside0.mk ((gw_ hg (hs_ HB.out))); replace HB := st_ HB hb; have GE1283 := Ge_.mk GW1283.out; clear hb hbox hg) | ((with_reducible refine gd_ 3 rfl ?_); refine bv_ 3 #[.slice A1_0 l1_0.length c1_0, .int .i64 a1_1, .int .i64 a1_2, .string a1_3] 44 ?_; intro gb1284 hg w8 hbox hb; have BK1284 := Aside0.mk (hbox); have GW1284 := Aside0.mk ((gw_ hg (hs_ HB.out))); replace HB := st_ HB hb; have GE1284 := Ge_.mk GW1284.out; have NB1283_1284 := Ne_.mk (nl_ BK1283.out hg); replace BK1283 := bk2_ BK1283 hb; have NB1284_1283 := Ne_.mk (NB1283_1284.out.symm); clear hb hbox hg; have hnb9 := NB1283_1284.out; have hnc9 := NB1284_1283.out; obtain ⟨z10_0, z10_1, z10_2, z10_3, y10_0, y10_1, y10_2, y10_3⟩ := bc4_ BK1283.out; obtain ⟨z11_0, z11_1, z11_2, z11_3, y11_0, y11_1, y11_2, y11_3⟩ := bc4_ BK1284.out) | ((with_reducible refine gate_callee (f := 139) rfl ?_); refine gl_ (some 9) Try.func139 #[.slice A0_0 l0_0.length c0_0, .slice A1_0 l1_0.length c1_0] ?_; (with_reducible refine (impl_SameSet.calls k _ _ l0_0 _ _ l1_0 true _ ?side1 ?side2 ?side3 ?side4 A3.out).mono ?_); (case side1 => exact cp_ ((Kd.C_below HR0_0.out HB.out))); (case side2 => exact HC0_0.out); (case side3 => exact cp_ ((Kd.C_below HR1_0.out HB.out))); (case side4 => exact HC1_0.out); rintro e w' ⟨rfl, ⟨nd, rfl⟩⟩; refine ⟨_, rfl, ?_⟩))
    go_ret
    exact an_ (by exact hs_ HB.out)
   rw [if_neg c6] at H
   have c6b0 : (a0_2 == a1_2) = false := beq_eq_false_iff_ne.mpr c6
   have c6b1 : (a0_2 != a1_2) = true := bne_iff_ne.mpr c6
   obtain rfl := Option.some.inj H
   go_enter Try.func85, Try.ntmps85
   go_wp2_with (first | ((with_reducible refine gd_ 2 rfl ?_); refine bv_ 2 #[.slice A0_0 l0_0.length c0_0, .int .i64 a0_1, .int .i64 a0_2, .string a0_3] 44 ?_; intro gb1283 hg w12 hbox hb; have BK1283 := Aside0.mk (hbox); have GW1283 := Aside0.mk ((gw_ hg (hs_ HB.out))); replace HB := st_ HB hb; have GE1283 := Ge_.mk GW1283.out; clear hb hbox hg) | ((with_reducible refine gd_ 3 rfl ?_); refine bv_ 3 #[.slice A1_0 l1_0.length c1_0, .int .i64 a1_1, .int .i64 a1_2, .string a1_3] 44 ?_; intro gb1284 hg w13 hbox hb; have BK1284 := Aside0.mk (hbox); have GW1284 := Aside0.mk ((gw_ hg (hs_ HB.out))); replace HB := st_ HB hb; have GE1284 := Ge_.mk GW1284.out; have NB1283_1284 := Ne_.mk (nl_ BK1283.out hg); replace BK1283 := bk2_ BK1283 hb; have NB1284_1283 := Ne_.mk (NB1283_1284.out.symm); clear hb hbox hg; have hnb14 := NB1283_1284.out; have hnc14 := NB1284_1283.out; obtain ⟨z15_0, z15_1, z15_2, z15_3, y15_0, y15_1, y15_2, y15_3⟩ := bc4_ BK1283.out; obtain ⟨z16_0, z16_1, z16_2, z16_3, y16_0, y16_1, y16_2, y16_3⟩ := bc4_ BK1284.out) | ((with_reducible refine gate_callee (f := 139) rfl ?_); refine gl_ (some 9) Try.func139 #[.slice A0_0 l0_0.length c0_0, .slice A1_0 l1_0.length c1_0] ?_; (with_reducible refine (impl_SameSet.calls k _ _ l0_0 _ _ l1_0 true _ ?side1 ?side2 ?side3 ?side4 A3.out).mono ?_); (case side1 => exact cp_ ((Kd.C_below HR0_0.out HB.out))); (case side2 => exact HC0_0.out); (case side3 => exact cp_ ((Kd.C_below HR1_0.out HB.out))); (case side4 => exact HC1_0.out); rintro e w' ⟨rfl, ⟨nd, rfl⟩⟩; refine ⟨_, rfl, ?_⟩))
   go_ret
   exact an_ (by exact hs_ HB.out)
  rw [if_neg c5] at H
  have c5b0 : (a0_1 == a1_1) = false := beq_eq_false_iff_ne.mpr c5
  have c5b1 : (a0_1 != a1_1) = true := bne_iff_ne.mpr c5
  obtain rfl := Option.some.inj H
  go_enter Try.func85, Try.ntmps85
  go_wp2_with (first | ((with_reducible refine gd_ 2 rfl ?_); refine bv_ 2 #[.slice A0_0 l0_0.length c0_0, .int .i64 a0_1, .int .i64 a0_2, .string a0_3] 44 ?_; intro gb1283 hg w17 hbox hb; have BK1283 := Aside0.mk (hbox); have GW1283 := Aside0.mk ((gw_ hg (hs_ HB.out))); replace HB := st_ HB hb; have GE1283 := Ge_.mk GW1283.out; clear hb hbox hg) | ((with_reducible refine gd_ 3 rfl ?_); refine bv_ 3 #[.slice A1_0 l1_0.length c1_0, .int .i64 a1_1, .int .i64 a1_2, .string a1_3] 44 ?_; intro gb1284 hg w18 hbox hb; have BK1284 := Aside0.mk (hbox); have GW1284 := Aside0.mk ((gw_ hg (hs_ HB.out))); replace HB := st_ HB hb; have GE1284 := Ge_.mk GW1284.out; have NB1283_1284 := Ne_.mk (nl_ BK1283.out hg); replace BK1283 := bk2_ BK1283 hb; have NB1284_1283 := Ne_.mk (NB1283_1284.out.symm); clear hb hbox hg; have hnb19 := NB1283_1284.out; have hnc19 := NB1284_1283.out; obtain ⟨z20_0, z20_1, z20_2, z20_3, y20_0, y20_1, y20_2, y20_3⟩ := bc4_ BK1283.out; obtain ⟨z21_0, z21_1, z21_2, z21_3, y21_0, y21_1, y21_2, y21_3⟩ := bc4_ BK1284.out) | ((with_reducible refine gate_callee (f := 139) rfl ?_); refine gl_ (some 9) Try.func139 #[.slice A0_0 l0_0.length c0_0, .slice A1_0 l1_0.length c1_0] ?_; (with_reducible refine (impl_SameSet.calls k _ _ l0_0 _ _ l1_0 true _ ?side1 ?side2 ?side3 ?side4 A3.out).mono ?_); (case side1 => exact cp_ ((Kd.C_below HR0_0.out HB.out))); (case side2 => exact HC0_0.out); (case side3 => exact cp_ ((Kd.C_below HR1_0.out HB.out))); (case side4 => exact HC1_0.out); rintro e w' ⟨rfl, ⟨nd, rfl⟩⟩; refine ⟨_, rfl, ?_⟩))
  go_ret
  exact an_ (by exact hs_ HB.out)
 replace c4 := Bool.eq_false_iff.mpr c4
 subst c4
 rw [if_neg (show ¬ (false = true) by decide)] at H
 obtain rfl := Option.some.inj H
 go_enter Try.func85, Try.ntmps85
 go_wp2_with (first | ((with_reducible refine gd_ 2 rfl ?_); refine bv_ 2 #[.slice A0_0 l0_0.length c0_0, .int .i64 a0_1, .int .i64 a0_2, .string a0_3] 44 ?_; intro gb1283 hg w22 hbox hb; have BK1283 := Aside0.mk (hbox); have GW1283 := Aside0.mk ((gw_ hg (hs_ HB.out))); replace HB := st_ HB hb; have GE1283 := Ge_.mk GW1283.out; clear hb hbox hg) | ((with_reducible refine gd_ 3 rfl ?_); refine bv_ 3 #[.slice A1_0 l1_0.length c1_0, .int .i64 a1_1, .int .i64 a1_2, .string a1_3] 44 ?_; intro gb1284 hg w23 hbox hb; have BK1284 := Aside0.mk (hbox); have GW1284 := Aside0.mk ((gw_ hg (hs_ HB.out))); replace HB := st_ HB hb; have GE1284 := Ge_.mk GW1284.out; have NB1283_1284 := Ne_.mk (nl_ BK1283.out hg); replace BK1283 := bk2_ BK1283 hb; have NB1284_1283 := Ne_.mk (NB1283_1284.out.symm); clear hb hbox hg; have hnb24 := NB1283_1284.out; have hnc24 := NB1284_1283.out; obtain ⟨z25_0, z25_1, z25_2, z25_3, y25_0, y25_1, y25_2, y25_3⟩ := bc4_ BK1283.out; obtain ⟨z26_0, z26_1, z26_2, z26_3, y26_0, y26_1, y26_2, y26_3⟩ := bc4_ BK1284.out) | ((with_reducible refine gate_callee (f := 139) rfl ?_); refine gl_ (some 9) Try.func139 #[.slice A0_0 l0_0.length c0_0, .slice A1_0 l1_0.length c1_0] ?_; (with_reducible refine (impl_SameSet.calls k _ _ l0_0 _ _ l1_0 false _ ?side1 ?side2 ?side3 ?side4 A3.out).mono ?_); (case side1 => exact cp_ ((Kd.C_below HR0_0.out HB.out))); (case side2 => exact HC0_0.out); (case side3 => exact cp_ ((Kd.C_below HR1_0.out HB.out))); (case side4 => exact HC1_0.out); rintro e w' ⟨rfl, ⟨nd, rfl⟩⟩; refine ⟨_, rfl, ?_⟩))
 go_ret
 exact an_ (by exact hs_ HB.out)
def laws_big.f (l0 : List Int) : Option (Bool) := some (decide ((l0.length : Int) > 1048576))
theorem laws_big.calls (A0 : Option Addr) (c0 : Nat) (l0 : List Int) (r : Bool) (w : World) (hr0 : Kd.C (Kd.int .u8) w A0 l0.length l0) (hc0 : l0.length ≤ c0) (h : laws_big.f l0 = some r) :
  Calls Try.prog 75 #[.slice A0 l0.length c0] w fun e w' => e = .returned (.bool r) ∧ Drawn0 w w' := by
 have HR0 := Aside0.mk hr0
 have HC0 := Aside0.mk hc0
 clear hr0 hc0
 have H : (some (decide ((l0.length : Int) > 1048576))) = some r := h
 clear h
 obtain rfl := Option.some.inj H
 go_enter Try.func75, Try.ntmps75
 go_wp2
 go_ret
 exact ⟨by first | rfl | (simp; done) | (simp [*]; done), by repeat (first | exact Drawn0.refl _ | apply Drawn0.step)⟩
def laws_sameList.l0 : Nat → List (S44) → List (S44) → Int → Option (Bool)
 | 0, _, _, _ => none
 | k + 1, x0, x1, x5 => if x5 < (x0.length : Int) then (if 0 ≤ x5 then (if x5 < (x1.length : Int) then ((impl_SameAlarm.f k ((rd_T44 x0 x5).f0) ((rd_T44 x0 x5).f1) ((rd_T44 x0 x5).f2) ((rd_T44 x0 x5).f3) ((rd_T44 x1 x5).f0) ((rd_T44 x1 x5).f1) ((rd_T44 x1 x5).f2) ((rd_T44 x1 x5).f3)).bind fun t1859 => (if t1859 = true then (laws_sameList.l0 k x0 x1 (wrap64 (x5 + 1))) else (some false))) else (none)) else (none)) else (some true)
def laws_sameList.f (k : Nat) (l0 : List (S44)) (l1 : List (S44)) : Option (Bool) := if (l0.length : Int) = (l1.length : Int) then (laws_sameList.l0 k l0 l1 0) else (some false)
theorem laws_sameList.mono_l : ∀ k, (∀ y0 y1 y2, LeO (laws_sameList.l0 k y0 y1 y2) (laws_sameList.l0 (k + 1) y0 y1 y2))
 | 0 => fun _ _ _ r h => by simp [laws_sameList.l0] at h
 | k + 1 => by
  have ih0 := laws_sameList.mono_l k
  intro y0 y1 y2
  unfold laws_sameList.l0
  repeat' first
  | (with_reducible exact ih0 _ _ _)
  | (with_reducible exact impl_SameAlarm.mono _ _ _ _ _ _ _ _ _)
  | (with_reducible exact LeO.refl _)
  | (with_reducible exact LeO.none _)
  | (with_reducible refine LeO.ite ?_ ?_)
  | (with_reducible refine LeO.bind ?_ (fun _ => ?_))
  | exact ih0 _ _ _
  | exact impl_SameAlarm.mono _ _ _ _ _ _ _ _ _
theorem laws_sameList.mono : ∀ a0 a1 k, LeO (laws_sameList.f k a0 a1) (laws_sameList.f (k + 1) a0 a1) := by
 intro a0 a1 k
 have ih0 := laws_sameList.mono_l k
 unfold laws_sameList.f
 repeat' first | (with_reducible first | exact ih0 _ _ _ | exact impl_SameAlarm.mono _ _ _ _ _ _ _ _ _ | exact LeO.refl _ | exact LeO.none _ | refine LeO.ite ?_ ?_ | refine LeO.bind ?_ (fun _ => ?_)) | exact ih0 _ _ _ | exact impl_SameAlarm.mono _ _ _ _ _ _ _ _ _
def laws_sameList.T6 : Bool × List (List Nat × List Nat) := (true, [([], []), ([], []), ([0, 1], [0, 1]), ([2], [2]), ([], []), ([], []), ([4, 5], [4, 5]), ([6], [6]), ([3, 7], [3, 7]), ([8], [8])])
def laws_sameList.B6 : List Nat := [0, 0, 3, 7, 0, 0, 48, 112, 255, 511]
theorem laws_sameList.tab6 : rtab .any (opsOf Try.f77 6) = laws_sameList.T6 := by kernel_rfl
theorem laws_sameList.bits6 : waitsOk laws_sameList.T6.2 laws_sameList.B6 = true := by kernel_rfl
theorem laws_sameList.calls (k : Nat) (A0 : Option Addr) (c0 : Nat) (l0 : List (S44)) (A1 : Option Addr) (c1 : Nat) (l1 : List (S44)) (r : Bool) (w : World) (hr0 : Kd.C k44 w A0 l0.length l0) (hc0 : l0.length ≤ c0) (hr1 : Kd.C k44 w A1 l1.length l1) (hc1 : l1.length ≤ c1) (h : laws_sameList.f k l0 l1 = some r) :
  Calls Try.prog 77 #[.slice A0 l0.length c0, .slice A1 l1.length c1] w fun e w' => e = .returned (.bool r) ∧ Below w.heap.size w w' := by
 have hu44 := Try.underlying44
 have HR0 := Aside0.mk hr0
 have HC0 := Aside0.mk hc0
 clear hr0 hc0
 have HR1 := Aside0.mk hr1
 have HC1 := Aside0.mk hc1
 clear hr1 hc1
 have HB := Aside0.mk (Below.refl w.heap.size w)
 have H : (if (l0.length : Int) = (l1.length : Int) then (laws_sameList.l0 k l0 l1 0) else (some false)) = some r := h
 clear h
 by_cases c3 : (l0.length : Int) = (l1.length : Int)
 ·
  rw [if_pos c3] at H
  have c3b0 : ((l0.length : Int) == (l1.length : Int)) = true := beq_iff_eq.mpr c3
  have c3b1 : ((l0.length : Int) != (l1.length : Int)) = false := bne_eq_false_iff_eq.mpr c3
  have c3b2 : (l0.length == l1.length) = true := by first | simpa using c3 | (simp at c3 ⊢; omega)
  clear c3
  have H' := Aside0.mk H
  clear H
  go_enter Try.func77, Try.ntmps77
  go_wp2
  go_loopg [5] k (fun kq v5 w' => ∃ (x5_1 : Int), v5 = .int .i64 x5_1 ∧ Aside0 (laws_sameList.l0 kq l0 l1 x5_1 = some r) ∧ Aside0 (kq ≤ k) ∧ Aside0 (Below w.heap.size w w'))
  case atStart => exact ⟨(0), (by first | rfl | (simp; done) | (simp [*]; done)), H', ⟨Nat.le_refl _⟩, ⟨by exact hs_ HB.out⟩⟩
  case round =>
   clear H'
   try clear c1
   try clear p2
   try clear c3
   try clear c3b0
   try clear c3b1
   try clear c3b2
   obtain ⟨x5_1, rfl, HA, HK1, HB⟩ := hrel
   cases gk with
   | zero => exact absurd HA.out (by simp [laws_sameList.l0])
   | succ k1 =>
    have H := HA.out
    clear HA
    simp only [laws_sameList.l0] at H
    by_cases c4 : x5_1 < (l0.length : Int)
    ·
     rw [if_pos c4] at H
     have c4b0 := decide_eq_true c4
     clear c4
     by_cases c5 : 0 ≤ x5_1
     ·
      rw [if_pos c5] at H
      have c5b0 := decide_eq_true c5
      clear c5
      by_cases c6 : x5_1 < (l1.length : Int)
      ·
       rw [if_pos c6] at H
       have c6b0 := decide_eq_true c6
       clear c6
       replace H := Option.bind_eq_some_iff.mp H
       obtain ⟨t1859, A70, H⟩ := H
       have A7 := Aside0.mk A70
       clear A70
       by_cases c8 : t1859 = true
       ·
        subst c8
        rw [if_pos rfl] at H
        have H' := Aside0.mk H
        clear H
        try go_wp2
        replace HB := Aside0.mk (bd_ HB.out)
        have p1857 : 0 ≤ (x5_1 : Int) := of_decide_eq_true (by with_reducible assumption)
        have q1857 : x5_1 < (l0.length : Int) := of_decide_eq_true (by with_reducible assumption)
        obtain ⟨ad1857, A1857_0, c1857_0, e1857, hx1857_0, hx1857_1, hx1857_2, hx1857_3, hl1857_0, hi1857_0⟩ := at_T44 HR0.out x5_1 p1857 q1857
        have hw1857_3 := hx1857_3
        have hw1857_2 := hx1857_2
        have hw1857_1 := hx1857_1
        have hw1857_0 := hx1857_0
        cases e1857
        replace hx1857_0 := cl_ HB.out hx1857_0
        replace hx1857_1 := cl_ HB.out hx1857_1
        replace hx1857_2 := cl_ HB.out hx1857_2
        replace hx1857_3 := cl_ HB.out hx1857_3
        have HR1857_0 := Aside0.mk hi1857_0
        have HC1857_0 := Aside0.mk hl1857_0
        clear hi1857_0 hl1857_0
        replace p1857 := eq_true p1857
        replace q1857 := eq_true q1857
        have p1858 : 0 ≤ (x5_1 : Int) := of_decide_eq_true (by with_reducible assumption)
        have q1858 : x5_1 < (l1.length : Int) := of_decide_eq_true (by with_reducible assumption)
        obtain ⟨ad1858, A1858_0, c1858_0, e1858, hx1858_0, hx1858_1, hx1858_2, hx1858_3, hl1858_0, hi1858_0⟩ := at_T44 HR1.out x5_1 p1858 q1858
        have hw1858_3 := hx1858_3
        have hw1858_2 := hx1858_2
        have hw1858_1 := hx1858_1
        have hw1858_0 := hx1858_0
        cases e1858
        replace hx1858_0 := cl_ HB.out hx1858_0
        replace hx1858_1 := cl_ HB.out hx1858_1
        replace hx1858_2 := cl_ HB.out hx1858_2
        replace hx1858_3 := cl_ HB.out hx1858_3
        have HR1858_0 := Aside0.mk hi1858_0
        have HC1858_0 := Aside0.mk hl1858_0
        clear hi1858_0 hl1858_0
        replace p1858 := eq_true p1858
        replace q1858 := eq_true q1858
        refine start_ (n := 10) (S := fun w' => w'.cell? (ad1857.add ((x5_1).toNat * 4)) = some (.slice A1857_0 ((rd_T44 l0 x5_1).f0).length c1857_0) ∧ w'.cell? ⟨(ad1857.add ((x5_1).toNat * 4)).block, (ad1857.add ((x5_1).toNat * 4)).off + 1, none⟩ = some (.int .i64 ((rd_T44 l0 x5_1).f1)) ∧ w'.cell? ⟨(ad1857.add ((x5_1).toNat * 4)).block, (ad1857.add ((x5_1).toNat * 4)).off + 2, none⟩ = some (.int .i64 ((rd_T44 l0 x5_1).f2)) ∧ w'.cell? ⟨(ad1857.add ((x5_1).toNat * 4)).block, (ad1857.add ((x5_1).toNat * 4)).off + 3, none⟩ = some (.string ((rd_T44 l0 x5_1).f3)) ∧ w'.cell? (ad1858.add ((x5_1).toNat * 4)) = some (.slice A1858_0 ((rd_T44 l1 x5_1).f0).length c1858_0) ∧ w'.cell? ⟨(ad1858.add ((x5_1).toNat * 4)).block, (ad1858.add ((x5_1).toNat * 4)).off + 1, none⟩ = some (.int .i64 ((rd_T44 l1 x5_1).f1)) ∧ w'.cell? ⟨(ad1858.add ((x5_1).toNat * 4)).block, (ad1858.add ((x5_1).toNat * 4)).off + 2, none⟩ = some (.int .i64 ((rd_T44 l1 x5_1).f2)) ∧ w'.cell? ⟨(ad1858.add ((x5_1).toNat * 4)).block, (ad1858.add ((x5_1).toNat * 4)).off + 3, none⟩ = some (.string ((rd_T44 l1 x5_1).f3))) (ds := []) #[f_,f_,f_,f_,f_,f_,f_,f_,f_,f_] (by kernel_rfl) rfl rfl ⟨((HB.out.cell (World.block_lt_of_cell? w _ hw1857_0)).trans hw1857_0), ((HB.out.cell (World.block_lt_of_cell? w _ hw1857_1)).trans hw1857_1), ((HB.out.cell (World.block_lt_of_cell? w _ hw1857_2)).trans hw1857_2), ((HB.out.cell (World.block_lt_of_cell? w _ hw1857_3)).trans hw1857_3), ((HB.out.cell (World.block_lt_of_cell? w _ hw1858_0)).trans hw1858_0), ((HB.out.cell (World.block_lt_of_cell? w _ hw1858_1)).trans hw1858_1), ((HB.out.cell (World.block_lt_of_cell? w _ hw1858_2)).trans hw1858_2), ((HB.out.cell (World.block_lt_of_cell? w _ hw1858_3)).trans hw1858_3)⟩ (fun hHeld => ?_); refine with_tabW laws_sameList.tab6 laws_sameList.bits6 (fun HT_ HW_ => ?_)
        generalize wr.drew = w9 at HB HR1857_0 HR1858_0 hx1857_0 hx1857_1 hx1857_2 hx1857_3 hx1858_0 hx1858_1 hx1858_2 hx1858_3 hHeld ⊢
        refine pw_ 0 17 (b_ 1 9) rfl rfl HT_.out ?_
        refine pw_ 1 18 (b_ 2 8) rfl rfl HT_.out ?_
        refine pw_ 2 19 (b_ 3 7) rfl rfl HT_.out ?_
        refine pw_ 4 21 #[t_,t_,t_,f_,t_,f_,f_,f_,f_,f_] rfl rfl HT_.out ?_
        refine pw_ 5 22 #[t_,t_,t_,f_,t_,t_,f_,f_,f_,f_] rfl rfl HT_.out ?_
        refine pw_ 6 23 #[t_,t_,t_,f_,t_,t_,t_,f_,f_,f_] rfl rfl HT_.out ?_
        refine take_ (i := 3) (N := some 20) (v := ?_) (a' := ?_) #[t_,t_,t_,t_,t_,t_,t_,f_,f_,f_] rfl rfl (take_ofW HT_.out HW_.out (by kernel_rfl)) (fun _ _ _ h => h) (Or.inl ⟨by rfl, ?_⟩) hHeld ?_ ?_
        rotate_left
        ·
         rintro w' ⟨s0, s1, s2, s3, s4, s5, s6, s7⟩
         go_simp
         with_reducible rfl
        rotate_left
        ·
         simp only [fr_]
         rfl
        refine take_ (i := 7) (N := some 24) (v := ?_) (a' := ?_) #[t_,t_,t_,t_,t_,t_,t_,t_,f_,f_] rfl rfl (take_ofW HT_.out HW_.out (by kernel_rfl)) (fun _ _ _ h => h) (Or.inl ⟨by rfl, ?_⟩) hHeld ?_ ?_
        rotate_left
        ·
         rintro w' ⟨s0, s1, s2, s3, s4, s5, s6, s7⟩
         go_simp
         with_reducible rfl
        rotate_left
        ·
         simp only [fr_]
         rfl
        refine one_ (i := 8) (N := some 25) #[t_,t_,t_,t_,t_,t_,t_,t_,t_,f_] rfl rfl (one_of HT_.out (by kernel_rfl)) (by decide) (fun K hK => ?_)
        refine gs_ Try.func85 #[.agg #[.slice A1857_0 ((rd_T44 l0 x5_1).f0).length c1857_0, .int .i64 ((rd_T44 l0 x5_1).f1), .int .i64 ((rd_T44 l0 x5_1).f2), .string ((rd_T44 l0 x5_1).f3)], .agg #[.slice A1858_0 ((rd_T44 l1 x5_1).f0).length c1858_0, .int .i64 ((rd_T44 l1 x5_1).f1), .int .i64 ((rd_T44 l1 x5_1).f2), .string ((rd_T44 l1 x5_1).f3)]] ?_
        with_reducible refine (impl_SameAlarm.calls k1 _ _ ((rd_T44 l0 x5_1).f0) ((rd_T44 l0 x5_1).f1) ((rd_T44 l0 x5_1).f2) ((rd_T44 l0 x5_1).f3) _ _ ((rd_T44 l1 x5_1).f0) ((rd_T44 l1 x5_1).f1) ((rd_T44 l1 x5_1).f2) ((rd_T44 l1 x5_1).f3) true _ ?side1 ?side2 ?side3 ?side4 A7.out).mono ?_
        (case side1 => exact cp_ ((Kd.C_below HR1857_0.out HB.out)))
        (case side2 => exact HC1857_0.out)
        (case side3 => exact cp_ ((Kd.C_below HR1858_0.out HB.out)))
        (case side4 => exact HC1858_0.out)
        rintro e w10 ⟨rfl, hb⟩
        refine ⟨_, rfl, ?_⟩
        replace HB := st_ HB hb
        (try clear hb)
        (try clear hk)
        refine hK.out _ _ ⟨((HB.out.cell (World.block_lt_of_cell? w _ hw1857_0)).trans hw1857_0), ((HB.out.cell (World.block_lt_of_cell? w _ hw1857_1)).trans hw1857_1), ((HB.out.cell (World.block_lt_of_cell? w _ hw1857_2)).trans hw1857_2), ((HB.out.cell (World.block_lt_of_cell? w _ hw1857_3)).trans hw1857_3), ((HB.out.cell (World.block_lt_of_cell? w _ hw1858_0)).trans hw1858_0), ((HB.out.cell (World.block_lt_of_cell? w _ hw1858_1)).trans hw1858_1), ((HB.out.cell (World.block_lt_of_cell? w _ hw1858_2)).trans hw1858_2), ((HB.out.cell (World.block_lt_of_cell? w _ hw1858_3)).trans hw1858_3)⟩ (fun hHeld => ?_)
        clear hK K
        refine norm_ (a' := ?_) ?_ ?_
        rotate_left
        ·
         show Act.put _ (some 25) _ = _
         simp only [fr_]
         rfl
        refine pw_ 9 26 (b_ 10 0) rfl rfl HT_.out ?_
        refine done_ (done_of HT_.out (by kernel_rfl)) ?_
        try go_wp2
        go_roundg k1
        case measure => have := HK1.out; omega
        case rel => exact ⟨(wrap64 (x5_1 + 1)), (by first | rfl | (simp; done) | (simp [*]; done)), H', ⟨by have := HK1.out; omega⟩, ⟨by exact hs_ HB.out⟩⟩
       replace c8 := Bool.eq_false_iff.mpr c8
       subst c8
       rw [if_neg (show ¬ (false = true) by decide)] at H
       obtain rfl := Option.some.inj H
       try go_wp2
       replace HB := Aside0.mk (bd_ HB.out)
       have p1857 : 0 ≤ (x5_1 : Int) := of_decide_eq_true (by with_reducible assumption)
       have q1857 : x5_1 < (l0.length : Int) := of_decide_eq_true (by with_reducible assumption)
       obtain ⟨ad1857, A1857_0, c1857_0, e1857, hx1857_0, hx1857_1, hx1857_2, hx1857_3, hl1857_0, hi1857_0⟩ := at_T44 HR0.out x5_1 p1857 q1857
       have hw1857_3 := hx1857_3
       have hw1857_2 := hx1857_2
       have hw1857_1 := hx1857_1
       have hw1857_0 := hx1857_0
       cases e1857
       replace hx1857_0 := cl_ HB.out hx1857_0
       replace hx1857_1 := cl_ HB.out hx1857_1
       replace hx1857_2 := cl_ HB.out hx1857_2
       replace hx1857_3 := cl_ HB.out hx1857_3
       have HR1857_0 := Aside0.mk hi1857_0
       have HC1857_0 := Aside0.mk hl1857_0
       clear hi1857_0 hl1857_0
       replace p1857 := eq_true p1857
       replace q1857 := eq_true q1857
       have p1858 : 0 ≤ (x5_1 : Int) := of_decide_eq_true (by with_reducible assumption)
       have q1858 : x5_1 < (l1.length : Int) := of_decide_eq_true (by with_reducible assumption)
       obtain ⟨ad1858, A1858_0, c1858_0, e1858, hx1858_0, hx1858_1, hx1858_2, hx1858_3, hl1858_0, hi1858_0⟩ := at_T44 HR1.out x5_1 p1858 q1858
       have hw1858_3 := hx1858_3
       have hw1858_2 := hx1858_2
       have hw1858_1 := hx1858_1
       have hw1858_0 := hx1858_0
       cases e1858
       replace hx1858_0 := cl_ HB.out hx1858_0
       replace hx1858_1 := cl_ HB.out hx1858_1
       replace hx1858_2 := cl_ HB.out hx1858_2
       replace hx1858_3 := cl_ HB.out hx1858_3
       have HR1858_0 := Aside0.mk hi1858_0
       have HC1858_0 := Aside0.mk hl1858_0
       clear hi1858_0 hl1858_0
       replace p1858 := eq_true p1858
       replace q1858 := eq_true q1858
       refine start_ (n := 10) (S := fun w' => w'.cell? (ad1857.add ((x5_1).toNat * 4)) = some (.slice A1857_0 ((rd_T44 l0 x5_1).f0).length c1857_0) ∧ w'.cell? ⟨(ad1857.add ((x5_1).toNat * 4)).block, (ad1857.add ((x5_1).toNat * 4)).off + 1, none⟩ = some (.int .i64 ((rd_T44 l0 x5_1).f1)) ∧ w'.cell? ⟨(ad1857.add ((x5_1).toNat * 4)).block, (ad1857.add ((x5_1).toNat * 4)).off + 2, none⟩ = some (.int .i64 ((rd_T44 l0 x5_1).f2)) ∧ w'.cell? ⟨(ad1857.add ((x5_1).toNat * 4)).block, (ad1857.add ((x5_1).toNat * 4)).off + 3, none⟩ = some (.string ((rd_T44 l0 x5_1).f3)) ∧ w'.cell? (ad1858.add ((x5_1).toNat * 4)) = some (.slice A1858_0 ((rd_T44 l1 x5_1).f0).length c1858_0) ∧ w'.cell? ⟨(ad1858.add ((x5_1).toNat * 4)).block, (ad1858.add ((x5_1).toNat * 4)).off + 1, none⟩ = some (.int .i64 ((rd_T44 l1 x5_1).f1)) ∧ w'.cell? ⟨(ad1858.add ((x5_1).toNat * 4)).block, (ad1858.add ((x5_1).toNat * 4)).off + 2, none⟩ = some (.int .i64 ((rd_T44 l1 x5_1).f2)) ∧ w'.cell? ⟨(ad1858.add ((x5_1).toNat * 4)).block, (ad1858.add ((x5_1).toNat * 4)).off + 3, none⟩ = some (.string ((rd_T44 l1 x5_1).f3))) (ds := []) #[f_,f_,f_,f_,f_,f_,f_,f_,f_,f_] (by kernel_rfl) rfl rfl ⟨((HB.out.cell (World.block_lt_of_cell? w _ hw1857_0)).trans hw1857_0), ((HB.out.cell (World.block_lt_of_cell? w _ hw1857_1)).trans hw1857_1), ((HB.out.cell (World.block_lt_of_cell? w _ hw1857_2)).trans hw1857_2), ((HB.out.cell (World.block_lt_of_cell? w _ hw1857_3)).trans hw1857_3), ((HB.out.cell (World.block_lt_of_cell? w _ hw1858_0)).trans hw1858_0), ((HB.out.cell (World.block_lt_of_cell? w _ hw1858_1)).trans hw1858_1), ((HB.out.cell (World.block_lt_of_cell? w _ hw1858_2)).trans hw1858_2), ((HB.out.cell (World.block_lt_of_cell? w _ hw1858_3)).trans hw1858_3)⟩ (fun hHeld => ?_); refine with_tabW laws_sameList.tab6 laws_sameList.bits6 (fun HT_ HW_ => ?_)
       generalize wr.drew = w11 at HB HR1857_0 HR1858_0 hx1857_0 hx1857_1 hx1857_2 hx1857_3 hx1858_0 hx1858_1 hx1858_2 hx1858_3 hHeld ⊢
       refine pw_ 0 17 (b_ 1 9) rfl rfl HT_.out ?_
       refine pw_ 1 18 (b_ 2 8) rfl rfl HT_.out ?_
       refine pw_ 2 19 (b_ 3 7) rfl rfl HT_.out ?_
       refine pw_ 4 21 #[t_,t_,t_,f_,t_,f_,f_,f_,f_,f_] rfl rfl HT_.out ?_
       refine pw_ 5 22 #[t_,t_,t_,f_,t_,t_,f_,f_,f_,f_] rfl rfl HT_.out ?_
       refine pw_ 6 23 #[t_,t_,t_,f_,t_,t_,t_,f_,f_,f_] rfl rfl HT_.out ?_
       refine take_ (i := 3) (N := some 20) (v := ?_) (a' := ?_) #[t_,t_,t_,t_,t_,t_,t_,f_,f_,f_] rfl rfl (take_ofW HT_.out HW_.out (by kernel_rfl)) (fun _ _ _ h => h) (Or.inl ⟨by rfl, ?_⟩) hHeld ?_ ?_
       rotate_left
       ·
        rintro w' ⟨s0, s1, s2, s3, s4, s5, s6, s7⟩
        go_simp
        with_reducible rfl
       rotate_left
       ·
        simp only [fr_]
        rfl
       refine take_ (i := 7) (N := some 24) (v := ?_) (a' := ?_) #[t_,t_,t_,t_,t_,t_,t_,t_,f_,f_] rfl rfl (take_ofW HT_.out HW_.out (by kernel_rfl)) (fun _ _ _ h => h) (Or.inl ⟨by rfl, ?_⟩) hHeld ?_ ?_
       rotate_left
       ·
        rintro w' ⟨s0, s1, s2, s3, s4, s5, s6, s7⟩
        go_simp
        with_reducible rfl
       rotate_left
       ·
        simp only [fr_]
        rfl
       refine one_ (i := 8) (N := some 25) #[t_,t_,t_,t_,t_,t_,t_,t_,t_,f_] rfl rfl (one_of HT_.out (by kernel_rfl)) (by decide) (fun K hK => ?_)
       refine gs_ Try.func85 #[.agg #[.slice A1857_0 ((rd_T44 l0 x5_1).f0).length c1857_0, .int .i64 ((rd_T44 l0 x5_1).f1), .int .i64 ((rd_T44 l0 x5_1).f2), .string ((rd_T44 l0 x5_1).f3)], .agg #[.slice A1858_0 ((rd_T44 l1 x5_1).f0).length c1858_0, .int .i64 ((rd_T44 l1 x5_1).f1), .int .i64 ((rd_T44 l1 x5_1).f2), .string ((rd_T44 l1 x5_1).f3)]] ?_
       with_reducible refine (impl_SameAlarm.calls k1 _ _ ((rd_T44 l0 x5_1).f0) ((rd_T44 l0 x5_1).f1) ((rd_T44 l0 x5_1).f2) ((rd_T44 l0 x5_1).f3) _ _ ((rd_T44 l1 x5_1).f0) ((rd_T44 l1 x5_1).f1) ((rd_T44 l1 x5_1).f2) ((rd_T44 l1 x5_1).f3) false _ ?side1 ?side2 ?side3 ?side4 A7.out).mono ?_
       (case side1 => exact cp_ ((Kd.C_below HR1857_0.out HB.out)))
       (case side2 => exact HC1857_0.out)
       (case side3 => exact cp_ ((Kd.C_below HR1858_0.out HB.out)))
       (case side4 => exact HC1858_0.out)
       rintro e w12 ⟨rfl, hb⟩
       refine ⟨_, rfl, ?_⟩
       replace HB := st_ HB hb
       (try clear hb)
       (try clear hk)
       refine hK.out _ _ ⟨((HB.out.cell (World.block_lt_of_cell? w _ hw1857_0)).trans hw1857_0), ((HB.out.cell (World.block_lt_of_cell? w _ hw1857_1)).trans hw1857_1), ((HB.out.cell (World.block_lt_of_cell? w _ hw1857_2)).trans hw1857_2), ((HB.out.cell (World.block_lt_of_cell? w _ hw1857_3)).trans hw1857_3), ((HB.out.cell (World.block_lt_of_cell? w _ hw1858_0)).trans hw1858_0), ((HB.out.cell (World.block_lt_of_cell? w _ hw1858_1)).trans hw1858_1), ((HB.out.cell (World.block_lt_of_cell? w _ hw1858_2)).trans hw1858_2), ((HB.out.cell (World.block_lt_of_cell? w _ hw1858_3)).trans hw1858_3)⟩ (fun hHeld => ?_)
       clear hK K
       refine norm_ (a' := ?_) ?_ ?_
       rotate_left
       ·
        show Act.put _ (some 25) _ = _
        simp only [fr_]
        rfl
       refine pw_ 9 26 (b_ 10 0) rfl rfl HT_.out ?_
       refine done_ (done_of HT_.out (by kernel_rfl)) ?_
       try go_wp2
       go_ret
       exact an_ (by exact hs_ HB.out)
      rw [if_neg c6] at H
      exact absurd H (by simp)
     rw [if_neg c5] at H
     exact absurd H (by simp)
    rw [if_neg c4] at H
    have c4b0 : decide (x5_1 < (l0.length : Int)) = false := decide_eq_false c4
    clear c4
    obtain rfl := Option.some.inj H
    go_wp2
    go_ret
    exact an_ (by exact hs_ HB.out)
 rw [if_neg c3] at H
 have c3b0 : ((l0.length : Int) == (l1.length : Int)) = false := beq_eq_false_iff_ne.mpr c3
 have c3b1 : ((l0.length : Int) != (l1.length : Int)) = true := bne_iff_ne.mpr c3
 have c3b2 : (l0.length == l1.length) = false := by first | simpa using c3 | (simp at c3 ⊢; omega)
 obtain rfl := Option.some.inj H
 go_enter Try.func77, Try.ntmps77
 go_wp2
 go_ret
 exact an_ (by exact hs_ HB.out)
def impl_PlainOk.l0 : Nat → ByteArray → Int → Option (Bool)
 | 0, _, _ => none
 | k + 1, x0, x3 => if x3 < (x0.size : Int) then (if 0 ≤ x3 then (if (bt x0 x3) < 32 then (some false) else (if (bt x0 x3) > 126 then (some false) else (if (bt x0 x3) = 34 then (some false) else (if (bt x0 x3) = 92 then (some false) else (impl_PlainOk.l0 k x0 (wrap64 (x3 + 1))))))) else (none)) else (some true)
def impl_PlainOk.f (k : Nat) (a0 : ByteArray) : Option (Bool) := if (a0.size : Int) > 12 then (some false) else (impl_PlainOk.l0 k a0 0)
theorem impl_PlainOk.mono_l : ∀ k, (∀ y0 y1, LeO (impl_PlainOk.l0 k y0 y1) (impl_PlainOk.l0 (k + 1) y0 y1))
 | 0 => fun _ _ r h => by simp [impl_PlainOk.l0] at h
 | k + 1 => by
  have ih0 := impl_PlainOk.mono_l k
  intro y0 y1
  unfold impl_PlainOk.l0
  repeat' first
  | (with_reducible exact ih0 _ _)
  | (with_reducible exact LeO.refl _)
  | (with_reducible exact LeO.none _)
  | (with_reducible refine LeO.ite ?_ ?_)
  | (with_reducible refine LeO.bind ?_ (fun _ => ?_))
  | exact ih0 _ _
theorem impl_PlainOk.mono : ∀ a0 k, LeO (impl_PlainOk.f k a0) (impl_PlainOk.f (k + 1) a0) := by
 intro a0 k
 have ih0 := impl_PlainOk.mono_l k
 unfold impl_PlainOk.f
 repeat' first | (with_reducible first | exact ih0 _ _ | exact LeO.refl _ | exact LeO.none _ | refine LeO.ite ?_ ?_ | refine LeO.bind ?_ (fun _ => ?_)) | exact ih0 _ _
theorem impl_PlainOk.calls (k : Nat) (a0 : ByteArray) (r : Bool) (w : World) (h : impl_PlainOk.f k a0 = some r) :
  Calls Try.prog 156 #[.string a0] w fun e w' => e = .returned (.bool r) ∧ Drawn0 w w' := by
 have H : (if (a0.size : Int) > 12 then (some false) else (impl_PlainOk.l0 k a0 0)) = some r := h
 clear h
 by_cases c2 : (a0.size : Int) > 12
 ·
  rw [if_pos c2] at H
  have c2b0 : decide (12 < (a0.size : Int)) = true := decide_eq_true c2
  have c2b1 : decide (12 < a0.size) = true := decide_eq_true (by omega)
  clear c2
  obtain rfl := Option.some.inj H
  go_enter Try.func156, Try.ntmps156
  go_wp2
  go_ret
  exact ⟨by first | rfl | (simp; done) | (simp [*]; done), by repeat (first | exact Drawn0.refl _ | apply Drawn0.step)⟩
 rw [if_neg c2] at H
 have c2b0 : decide (12 < (a0.size : Int)) = false := decide_eq_false c2
 have c2b1 : decide (12 < a0.size) = false := decide_eq_false (by omega)
 clear c2
 have H' := Aside0.mk H
 clear H
 go_enter Try.func156, Try.ntmps156
 go_wp2
 go_loopg [3] k (fun kq v3 w' => ∃ (x3_1 : Int), v3 = .int .i64 x3_1 ∧ Aside0 (impl_PlainOk.l0 kq a0 x3_1 = some r) ∧ Aside0 (kq ≤ k) ∧ Drawn0 w w')
 case atStart => exact ⟨(0), (by first | rfl | (simp; done) | (simp [*]; done)), H', ⟨Nat.le_refl _⟩, by repeat (first | exact Drawn0.refl _ | apply Drawn0.step)⟩
 case round =>
  clear H'
  try clear c1
  try clear c2
  try clear c2b0
  try clear c2b1
  try clear p2
  obtain ⟨x3_1, rfl, HA, HK1, ⟨m1, rfl⟩⟩ := hrel
  cases gk with
  | zero => exact absurd HA.out (by simp [impl_PlainOk.l0])
  | succ k1 =>
   have H := HA.out
   clear HA
   simp only [impl_PlainOk.l0] at H
   by_cases c3 : x3_1 < (a0.size : Int)
   ·
    rw [if_pos c3] at H
    have c3b0 := decide_eq_true c3
    clear c3
    by_cases c4 : 0 ≤ x3_1
    ·
     rw [if_pos c4] at H
     have c4b0 := decide_eq_true c4
     clear c4
     by_cases c6 : (bt a0 x3_1) < 32
     ·
      rw [if_pos c6] at H
      have c6b0 := decide_eq_true c6
      clear c6
      obtain rfl := Option.some.inj H
      have p5 : 0 ≤ (x3_1 : Int) := of_decide_eq_true (by with_reducible assumption)
      have q5 : x3_1 < (a0.size : Int) := of_decide_eq_true (by with_reducible assumption)
      have hx5 := bt_at a0 x3_1
      replace p5 := eq_true p5
      replace q5 := eq_true q5
      go_wp2
      go_ret
      exact ⟨by first | rfl | (simp; done) | (simp [*]; done), by repeat (first | exact Drawn0.refl _ | apply Drawn0.step)⟩
     rw [if_neg c6] at H
     have c6b0 : decide ((bt a0 x3_1) < 32) = false := decide_eq_false c6
     clear c6
     by_cases c7 : (bt a0 x3_1) > 126
     ·
      rw [if_pos c7] at H
      have c7b0 : decide (126 < (bt a0 x3_1)) = true := decide_eq_true c7
      clear c7
      obtain rfl := Option.some.inj H
      have p5 : 0 ≤ (x3_1 : Int) := of_decide_eq_true (by with_reducible assumption)
      have q5 : x3_1 < (a0.size : Int) := of_decide_eq_true (by with_reducible assumption)
      have hx5 := bt_at a0 x3_1
      replace p5 := eq_true p5
      replace q5 := eq_true q5
      go_wp2
      go_ret
      exact ⟨by first | rfl | (simp; done) | (simp [*]; done), by repeat (first | exact Drawn0.refl _ | apply Drawn0.step)⟩
     rw [if_neg c7] at H
     have c7b0 : decide (126 < (bt a0 x3_1)) = false := decide_eq_false c7
     clear c7
     by_cases c8 : (bt a0 x3_1) = 34
     ·
      rw [if_pos c8] at H
      have c8b0 : ((bt a0 x3_1) == 34) = true := beq_iff_eq.mpr c8
      have c8b1 : ((bt a0 x3_1) != 34) = false := bne_eq_false_iff_eq.mpr c8
      clear c8
      obtain rfl := Option.some.inj H
      have p5 : 0 ≤ (x3_1 : Int) := of_decide_eq_true (by with_reducible assumption)
      have q5 : x3_1 < (a0.size : Int) := of_decide_eq_true (by with_reducible assumption)
      have hx5 := bt_at a0 x3_1
      replace p5 := eq_true p5
      replace q5 := eq_true q5
      go_wp2
      go_ret
      exact ⟨by first | rfl | (simp; done) | (simp [*]; done), by repeat (first | exact Drawn0.refl _ | apply Drawn0.step)⟩
     rw [if_neg c8] at H
     have c8b0 : ((bt a0 x3_1) == 34) = false := beq_eq_false_iff_ne.mpr c8
     have c8b1 : ((bt a0 x3_1) != 34) = true := bne_iff_ne.mpr c8
     by_cases c9 : (bt a0 x3_1) = 92
     ·
      rw [if_pos c9] at H
      have c9b0 : ((bt a0 x3_1) == 92) = true := beq_iff_eq.mpr c9
      have c9b1 : ((bt a0 x3_1) != 92) = false := bne_eq_false_iff_eq.mpr c9
      clear c9
      obtain rfl := Option.some.inj H
      have p5 : 0 ≤ (x3_1 : Int) := of_decide_eq_true (by with_reducible assumption)
      have q5 : x3_1 < (a0.size : Int) := of_decide_eq_true (by with_reducible assumption)
      have hx5 := bt_at a0 x3_1
      replace p5 := eq_true p5
      replace q5 := eq_true q5
      go_wp2
      go_ret
      exact ⟨by first | rfl | (simp; done) | (simp [*]; done), by repeat (first | exact Drawn0.refl _ | apply Drawn0.step)⟩
     rw [if_neg c9] at H
     have c9b0 : ((bt a0 x3_1) == 92) = false := beq_eq_false_iff_ne.mpr c9
     have c9b1 : ((bt a0 x3_1) != 92) = true := bne_iff_ne.mpr c9
     have H' := Aside0.mk H
     clear H
     have p5 : 0 ≤ (x3_1 : Int) := of_decide_eq_true (by with_reducible assumption)
     have q5 : x3_1 < (a0.size : Int) := of_decide_eq_true (by with_reducible assumption)
     have hx5 := bt_at a0 x3_1
     replace p5 := eq_true p5
     replace q5 := eq_true q5
     go_wp2
     go_roundg k1
     case measure => have := HK1.out; omega
     case rel => exact ⟨(wrap64 (x3_1 + 1)), (by first | rfl | (simp; done) | (simp [*]; done)), H', ⟨by have := HK1.out; omega⟩, by repeat (first | exact Drawn0.refl _ | apply Drawn0.step)⟩
    rw [if_neg c4] at H
    exact absurd H (by simp)
   rw [if_neg c3] at H
   have c3b0 : decide (x3_1 < (a0.size : Int)) = false := decide_eq_false c3
   clear c3
   obtain rfl := Option.some.inj H
   go_wp2
   go_ret
   exact ⟨by first | rfl | (simp; done) | (simp [*]; done), by repeat (first | exact Drawn0.refl _ | apply Drawn0.step)⟩
def impl_in.f (a0 : Int) (a1 : Int) (a2 : Int) : Option (Bool) := if a0 ≥ a1 then (some (decide (a0 ≤ a2))) else (some false)
theorem impl_in.calls (a0 : Int) (a1 : Int) (a2 : Int) (r : Bool) (w : World) (h : impl_in.f a0 a1 a2 = some r) :
  Calls Try.prog 111 #[.int .i64 a0, .int .i64 a1, .int .i64 a2] w fun e w' => e = .returned (.bool r) ∧ Drawn0 w w' := by
 have H : (if a0 ≥ a1 then (some (decide (a0 ≤ a2))) else (some false)) = some r := h
 clear h
 by_cases c4 : a0 ≥ a1
 ·
  rw [if_pos c4] at H
  have c4b0 : decide (a1 ≤ a0) = true := decide_eq_true c4
  clear c4
  obtain rfl := Option.some.inj H
  go_enter Try.func111, Try.ntmps111
  go_wp2
  go_ret
  exact ⟨by first | rfl | (simp; done) | (simp [*]; done), by repeat (first | exact Drawn0.refl _ | apply Drawn0.step)⟩
 rw [if_neg c4] at H
 have c4b0 : decide (a1 ≤ a0) = false := decide_eq_false c4
 clear c4
 obtain rfl := Option.some.inj H
 go_enter Try.func111, Try.ntmps111
 go_wp2
 go_ret
 exact ⟨by first | rfl | (simp; done) | (simp [*]; done), by repeat (first | exact Drawn0.refl _ | apply Drawn0.step)⟩
def impl_NameOk.l0 : Nat → ByteArray → Int → Option (Bool)
 | 0, _, _ => none
 | k + 1, x0, x3 => if x3 < (x0.size : Int) then (if 0 ≤ x3 then (if (bt x0 x3) < 97 then (some false) else (if (bt x0 x3) > 122 then (some false) else (impl_NameOk.l0 k x0 (wrap64 (x3 + 1))))) else (none)) else (some true)
def impl_NameOk.f (k : Nat) (a0 : ByteArray) : Option (Bool) := (impl_in.f (a0.size : Int) 1 8).bind fun t788 => (if t788 = true then (impl_NameOk.l0 k a0 0) else (some false))
theorem impl_NameOk.mono_l : ∀ k, (∀ y0 y1, LeO (impl_NameOk.l0 k y0 y1) (impl_NameOk.l0 (k + 1) y0 y1))
 | 0 => fun _ _ r h => by simp [impl_NameOk.l0] at h
 | k + 1 => by
  have ih0 := impl_NameOk.mono_l k
  intro y0 y1
  unfold impl_NameOk.l0
  repeat' first
  | (with_reducible exact ih0 _ _)
  | (with_reducible exact LeO.refl _)
  | (with_reducible exact LeO.none _)
  | (with_reducible refine LeO.ite ?_ ?_)
  | (with_reducible refine LeO.bind ?_ (fun _ => ?_))
  | exact ih0 _ _
theorem impl_NameOk.mono : ∀ a0 k, LeO (impl_NameOk.f k a0) (impl_NameOk.f (k + 1) a0) := by
 intro a0 k
 have ih0 := impl_NameOk.mono_l k
 unfold impl_NameOk.f
 repeat' first | (with_reducible first | exact ih0 _ _ | exact LeO.refl _ | exact LeO.none _ | refine LeO.ite ?_ ?_ | refine LeO.bind ?_ (fun _ => ?_)) | exact ih0 _ _
theorem impl_NameOk.calls (k : Nat) (a0 : ByteArray) (r : Bool) (w : World) (h : impl_NameOk.f k a0 = some r) :
  Calls Try.prog 169 #[.string a0] w fun e w' => e = .returned (.bool r) ∧ Drawn0 w w' := by
 have H : ((impl_in.f (a0.size : Int) 1 8).bind fun t788 => (if t788 = true then (impl_NameOk.l0 k a0 0) else (some false))) = some r := h
 clear h
 replace H := Option.bind_eq_some_iff.mp H
 obtain ⟨t788, A20, H⟩ := H
 have A2 := Aside0.mk A20
 clear A20
 by_cases c3 : t788 = true
 ·
  subst c3
  rw [if_pos rfl] at H
  have H' := Aside0.mk H
  clear H
  go_enter Try.func169, Try.ntmps169
  go_wp2_with (first | ((with_reducible refine gate_callee (f := 111) rfl ?_); refine gl_ (some 6) Try.func111 #[.int .i64 (a0.size : Int), .int .i64 1, .int .i64 8] ?_; (with_reducible refine (impl_in.calls (a0.size : Int) 1 8 true _ A2.out).mono ?_); rintro e w' ⟨rfl, ⟨nd, rfl⟩⟩; refine ⟨_, rfl, ?_⟩))
  go_loopg [3] k (fun kq v3 w' => ∃ (x3_1 : Int), v3 = .int .i64 x3_1 ∧ Aside0 (impl_NameOk.l0 kq a0 x3_1 = some r) ∧ Aside0 (kq ≤ k) ∧ Drawn0 w w')
  case atStart => exact ⟨(0), (by first | rfl | (simp; done) | (simp [*]; done)), H', ⟨Nat.le_refl _⟩, by repeat (first | exact Drawn0.refl _ | apply Drawn0.step)⟩
  case round =>
   clear H'
   try clear c1
   try clear p2
   try clear c3
   obtain ⟨x3_1, rfl, HA, HK1, ⟨m1, rfl⟩⟩ := hrel
   cases gk with
   | zero => exact absurd HA.out (by simp [impl_NameOk.l0])
   | succ k1 =>
    have H := HA.out
    clear HA
    simp only [impl_NameOk.l0] at H
    by_cases c4 : x3_1 < (a0.size : Int)
    ·
     rw [if_pos c4] at H
     have c4b0 := decide_eq_true c4
     clear c4
     by_cases c5 : 0 ≤ x3_1
     ·
      rw [if_pos c5] at H
      have c5b0 := decide_eq_true c5
      clear c5
      by_cases c7 : (bt a0 x3_1) < 97
      ·
       rw [if_pos c7] at H
       have c7b0 := decide_eq_true c7
       clear c7
       obtain rfl := Option.some.inj H
       have p6 : 0 ≤ (x3_1 : Int) := of_decide_eq_true (by with_reducible assumption)
       have q6 : x3_1 < (a0.size : Int) := of_decide_eq_true (by with_reducible assumption)
       have hx6 := bt_at a0 x3_1
       replace p6 := eq_true p6
       replace q6 := eq_true q6
       go_wp2
       go_ret
       exact ⟨by first | rfl | (simp; done) | (simp [*]; done), by repeat (first | exact Drawn0.refl _ | apply Drawn0.step)⟩
      rw [if_neg c7] at H
      have c7b0 : decide ((bt a0 x3_1) < 97) = false := decide_eq_false c7
      clear c7
      by_cases c9 : (bt a0 x3_1) > 122
      ·
       rw [if_pos c9] at H
       have c9b0 : decide (122 < (bt a0 x3_1)) = true := decide_eq_true c9
       clear c9
       obtain rfl := Option.some.inj H
       have p6 : 0 ≤ (x3_1 : Int) := of_decide_eq_true (by with_reducible assumption)
       have q6 : x3_1 < (a0.size : Int) := of_decide_eq_true (by with_reducible assumption)
       have hx6 := bt_at a0 x3_1
       replace p6 := eq_true p6
       replace q6 := eq_true q6
       have p8 : 0 ≤ (x3_1 : Int) := of_decide_eq_true (by with_reducible assumption)
       have q8 : x3_1 < (a0.size : Int) := of_decide_eq_true (by with_reducible assumption)
       have hx8 := bt_at a0 x3_1
       replace p8 := eq_true p8
       replace q8 := eq_true q8
       go_wp2
       go_ret
       exact ⟨by first | rfl | (simp; done) | (simp [*]; done), by repeat (first | exact Drawn0.refl _ | apply Drawn0.step)⟩
      rw [if_neg c9] at H
      have c9b0 : decide (122 < (bt a0 x3_1)) = false := decide_eq_false c9
      clear c9
      have H' := Aside0.mk H
      clear H
      have p6 : 0 ≤ (x3_1 : Int) := of_decide_eq_true (by with_reducible assumption)
      have q6 : x3_1 < (a0.size : Int) := of_decide_eq_true (by with_reducible assumption)
      have hx6 := bt_at a0 x3_1
      replace p6 := eq_true p6
      replace q6 := eq_true q6
      have p8 : 0 ≤ (x3_1 : Int) := of_decide_eq_true (by with_reducible assumption)
      have q8 : x3_1 < (a0.size : Int) := of_decide_eq_true (by with_reducible assumption)
      have hx8 := bt_at a0 x3_1
      replace p8 := eq_true p8
      replace q8 := eq_true q8
      go_wp2
      go_roundg k1
      case measure => have := HK1.out; omega
      case rel => exact ⟨(wrap64 (x3_1 + 1)), (by first | rfl | (simp; done) | (simp [*]; done)), H', ⟨by have := HK1.out; omega⟩, by repeat (first | exact Drawn0.refl _ | apply Drawn0.step)⟩
     rw [if_neg c5] at H
     exact absurd H (by simp)
    rw [if_neg c4] at H
    have c4b0 : decide (x3_1 < (a0.size : Int)) = false := decide_eq_false c4
    clear c4
    obtain rfl := Option.some.inj H
    go_wp2
    go_ret
    exact ⟨by first | rfl | (simp; done) | (simp [*]; done), by repeat (first | exact Drawn0.refl _ | apply Drawn0.step)⟩
 replace c3 := Bool.eq_false_iff.mpr c3
 subst c3
 rw [if_neg (show ¬ (false = true) by decide)] at H
 obtain rfl := Option.some.inj H
 go_enter Try.func169, Try.ntmps169
 go_wp2_with (first | ((with_reducible refine gate_callee (f := 111) rfl ?_); refine gl_ (some 6) Try.func111 #[.int .i64 (a0.size : Int), .int .i64 1, .int .i64 8] ?_; (with_reducible refine (impl_in.calls (a0.size : Int) 1 8 false _ A2.out).mono ?_); rintro e w' ⟨rfl, ⟨nd, rfl⟩⟩; refine ⟨_, rfl, ?_⟩))
 go_ret
 exact ⟨by first | rfl | (simp; done) | (simp [*]; done), by repeat (first | exact Drawn0.refl _ | apply Drawn0.step)⟩
def impl_LabelOk.f (k : Nat) (a0_0 : ByteArray) (a0_1 : ByteArray) : Option (Bool) := (impl_NameOk.f k a0_0).bind fun t790 => (if t790 = true then ((impl_PlainOk.f k a0_1).bind fun t791 => (some t791)) else (some false))
theorem impl_LabelOk.mono : ∀ a0 a1 k, LeO (impl_LabelOk.f k a0 a1) (impl_LabelOk.f (k + 1) a0 a1) := by
 intro a0 a1 k
 unfold impl_LabelOk.f
 repeat' first | (with_reducible first | exact impl_NameOk.mono _ _ | exact impl_PlainOk.mono _ _ | exact LeO.refl _ | exact LeO.none _ | refine LeO.ite ?_ ?_ | refine LeO.bind ?_ (fun _ => ?_)) | exact impl_NameOk.mono _ _ | exact impl_PlainOk.mono _ _
theorem impl_LabelOk.calls (k : Nat) (a0_0 : ByteArray) (a0_1 : ByteArray) (r : Bool) (w : World) (h : impl_LabelOk.f k a0_0 a0_1 = some r) :
  Calls Try.prog 152 #[.agg #[.string a0_0, .string a0_1]] w fun e w' => e = .returned (.bool r) ∧ Below w.heap.size w w' := by
 have hu164 := Try.underlying164
 have HB := Aside0.mk (Below.refl w.heap.size w)
 have H : ((impl_NameOk.f k a0_0).bind fun t790 => (if t790 = true then ((impl_PlainOk.f k a0_1).bind fun t791 => (some t791)) else (some false))) = some r := h
 clear h
 replace H := Option.bind_eq_some_iff.mp H
 obtain ⟨t790, A20, H⟩ := H
 have A2 := Aside0.mk A20
 clear A20
 by_cases c3 : t790 = true
 ·
  subst c3
  rw [if_pos rfl] at H
  replace H := Option.bind_eq_some_iff.mp H
  obtain ⟨t791, A40, H⟩ := H
  have A4 := Aside0.mk A40
  clear A40
  obtain rfl := Option.some.inj H
  go_enter Try.func152, Try.ntmps152
  go_wp2_with (first | ((with_reducible refine gd_ 1 rfl ?_); refine bv_ 1 #[.string a0_0, .string a0_1] 164 ?_; intro gb789 hg w5 hbox hb; have BK789 := Aside0.mk (hbox); have GW789 := Aside0.mk ((gw_ hg (hs_ HB.out))); replace HB := st_ HB hb; have GE789 := Ge_.mk GW789.out; clear hb hbox hg; obtain ⟨z6_0, z6_1, y6_0, y6_1⟩ := bc2_ BK789.out) | ((with_reducible refine gate_callee (f := 169) rfl ?_); refine gl_ (some 5) Try.func169 #[.string a0_0] ?_; (with_reducible refine (impl_NameOk.calls k a0_0 true _ A2.out).mono ?_); rintro e w' ⟨rfl, ⟨nd, rfl⟩⟩; refine ⟨_, rfl, ?_⟩) | (go_at_call 156; (with_reducible refine (impl_PlainOk.calls k a0_1 t791 _ A4.out).mono ?_); rintro e w' ⟨rfl, ⟨nd, rfl⟩⟩))
  go_ret
  exact an_ (by exact hs_ HB.out)
 replace c3 := Bool.eq_false_iff.mpr c3
 subst c3
 rw [if_neg (show ¬ (false = true) by decide)] at H
 obtain rfl := Option.some.inj H
 go_enter Try.func152, Try.ntmps152
 go_wp2_with (first | ((with_reducible refine gd_ 1 rfl ?_); refine bv_ 1 #[.string a0_0, .string a0_1] 164 ?_; intro gb789 hg w7 hbox hb; have BK789 := Aside0.mk (hbox); have GW789 := Aside0.mk ((gw_ hg (hs_ HB.out))); replace HB := st_ HB hb; have GE789 := Ge_.mk GW789.out; clear hb hbox hg; obtain ⟨z8_0, z8_1, y8_0, y8_1⟩ := bc2_ BK789.out) | ((with_reducible refine gate_callee (f := 169) rfl ?_); refine gl_ (some 5) Try.func169 #[.string a0_0] ?_; (with_reducible refine (impl_NameOk.calls k a0_0 false _ A2.out).mono ?_); rintro e w' ⟨rfl, ⟨nd, rfl⟩⟩; refine ⟨_, rfl, ?_⟩))
 go_ret
 exact an_ (by exact hs_ HB.out)
end Go.Proofs.Ytfholjcelnkleaa.Print
end
