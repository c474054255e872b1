import Derived.Shelf.GgSortMore.Stable
import Derived.Shelf.GgSortFunc.SmallK
import Derived.Shelf.GgSortFunc.SW
import Derived.Test.YticgekgojgkbgaaMFnExactAllAlarms3
import Derived.Shelf.Strings.Builder1
import Derived.Shelf.Strings.Builder2
import Derived.Shelf.Strings.OnBuilder
import Derived.Ground.GgsProg
import Derived.Shelf.GgSortFunc.Insertion
import Derived.Shelf.GgSortFunc.InsertionK
import Derived.Shelf.GgSortFunc.Tiny
import Derived.Shelf.GgSortFunc.Compose
import Derived.Ground.GgtProg
import Derived.Test.YticgekgojgkbgaaProg
import Derived.Test.YticgekgojgkbgaaMFnExactAllAlarms1
import Derived.Laws.Cover1
import Derived.Test.YticgekgojgkbgaaMFnExactAllAlarms2
section
namespace Go.Proofs.Yticgekgojgkbgaa.Stable
open Go.Shelf Go.RowKit Go.Lib Go.Sort
set_option linter.unusedVariables false
variable {P : Program} {ρ : Ren} {α : Type} [Inhabited α]

def SWK (enc : α → List Value) (k : Nat) (w0 : World) (blk off : Nat) (dk : Array α) (W : World) : Prop := SW id w0 blk off (flatK enc k dk) W
section
variable {enc : α → List Value} {k : Nat} {w0 W : World} {blk off : Nat} {dk : Array α}
theorem SWK.start (h : HoldsK enc k w0 blk off dk) : SWK enc k w0 blk off dk w0 := SW.start h
theorem SWK.drewN (h : SWK enc k w0 blk off dk W) (q : Nat) : SWK enc k w0 blk off dk (W.drewN q) := SW.drewN h q
theorem SWK.alloc (h : SWK enc k w0 blk off dk W) (o : Obj) : SWK enc k w0 blk off dk (W.alloc o) := SW.alloc h o
theorem SWK.le (h : SWK enc k w0 blk off dk W) : w0.heap.size ≤ W.heap.size := SW.le h
theorem SWK.holds (h : SWK enc k w0 blk off dk W) (hblk : blk < w0.heap.size) {d0 : Array α} (h0 : HoldsK enc k w0 blk off d0) (hs : dk.size = d0.size) : HoldsK enc k W blk off dk :=
  SW.holds h hblk h0 (by simp [hs])
theorem SWK.on (h : SWK enc k w0 blk off dk W) (hblk : blk < w0.heap.size) (m : Nat) (dk' : Array α) (os' : Array Obj) (hs : dk'.size = dk.size) : SWK enc k w0 blk off dk' (sortWorldK enc k W blk off m dk' os') :=
  SW.on h hblk m (flatK enc k dk') os' (by simp [hs])
theorem SWK.swap (hk : ∀ x, (enc x).length = k) (h : SWK enc k w0 blk off dk W) (hblk : blk < w0.heap.size) (i j : Nat) (hi : i < dk.size) (hj : j < dk.size) :
    SWK enc k w0 blk off (swp dk i j) ((W.setCells blk (off + i * k) (enc dk[j]!)).setCells blk (off + j * k) (enc dk[i]!)) := by
  obtain ⟨n, os, rfl⟩ := h
  refine ⟨n, os, ?_⟩
  have b : ∀ x, x < dk.size → x * k + k ≤ dk.size * k := fun x hx => by
    have := Nat.mul_le_mul_right k (show x + 1 ≤ dk.size from hx); rwa [Nat.add_mul, Nat.one_mul] at this
  unfold sortWorld
  rw [← putRow_grow id (Sort.ahead w0 n) os blk off _ hblk, setCells_putRow _ _ _ _ _ _ (by rw [hk, size_flatK]; exact b i hi), setCells_putRow _ _ _ _ _ _ (by rw [hk, size_setMany, size_flatK]; exact b j hj),
    setMany_swp enc k hk dk i j hi hj, putRow_grow id (Sort.ahead w0 n) os blk off _ hblk]
theorem SWK.less {g : Nat} {lb : Array Value} {lt : α → α → Bool} {size : Nat} (h : SWK enc k w0 blk off dk W) (hL : LessReadsK P g lb enc k lt blk off size w0) (hs : dk.size = size) (i j : Nat) (hi : i < size) (hj : j < size) :
    Calls P g (#[.int .i64 i, .int .i64 j] ++ lb) W fun e w' => e = .returned (.bool (lt dk[i]! dk[j]!)) ∧ ∃ q, w' = W.drewN q := by
  obtain ⟨n, os, rfl⟩ := h
  exact hL n os dk hs i j hi hj
theorem SWK.cell_swap (W : World) (blk o1 o2 : Nat) (v1 v2 : List Value) (b o : Nat) (h : b ≠ blk) : ((W.setCells blk o1 v1).setCells blk o2 v2).cell? ⟨b, o, none⟩ = W.cell? ⟨b, o, none⟩ := by
  rw [World.cell?_setCells_out blk _ _ _ _ (fun e => absurd e h), World.cell?_setCells_out blk _ _ _ _ (fun e => absurd e h)]
end

def Keep (blk : Nat) (W W' : World) : Prop := ∀ b o v, b ≠ blk → W.cell? ⟨b, o, none⟩ = some v → W'.cell? ⟨b, o, none⟩ = some v
theorem lt_of_cell {W : World} {b o : Nat} {v : Value} (h : W.cell? ⟨b, o, none⟩ = some v) : b < W.heap.size := by
  by_cases hlt : b < W.heap.size
  · exact hlt
  · unfold World.cell? at h
    rw [Array.getElem?_eq_none (by simpa using hlt)] at h; simp at h
theorem Keep.refl (blk : Nat) (W : World) : Keep blk W W := fun _ _ _ _ h => h
theorem Keep.trans {blk : Nat} {W W' W'' : World} (h : Keep blk W W') (g : Keep blk W' W'') : Keep blk W W'' := fun b o v hb hc => g b o v hb (h b o v hb hc)
theorem Keep.alloc (blk : Nat) (W : World) (o : Obj) : Keep blk W (W.alloc o) := fun b o' v _ hc => by
  rw [alloc_eq_grow, cell?_grow _ _ _ (lt_of_cell hc)]; exact hc
theorem Keep.drewN {blk : Nat} {W W' : World} (h : Keep blk W W') (q : Nat) : Keep blk W (W'.drewN q) := fun b o v hb hc => h b o v hb hc

structure Data (P : Program) (enc : α → List Value) (k : Nat) (lt : α → α → Bool) (g : Nat) (lb : Array Value) (sf : Nat) (sb : Array Value) (blk off size : Nat) (w0 : World) : Prop where
  hk : ∀ x, (enc x).length = k
  eg : ∀ args w, (callFunc g args).run P w = .ok (.enter g args) w
  less : LessReadsK P g lb enc k lt blk off size w0
  swap : SwapSwapsK P sf sb enc k blk off size
  holds : ∃ d0 : Array α, HoldsK enc k w0 blk off d0 ∧ d0.size = size
  hblk : blk < w0.heap.size
  hsz : size < 1152921504606846976

theorem Data.swaps {enc : α → List Value} {k : Nat} {lt : α → α → Bool} {g : Nat} {lb : Array Value} {sf : Nat} {sb : Array Value} {blk off size : Nat} {w0 : World} (D : Data P enc k lt g lb sf sb blk off size w0)
    {dk : Array α} (hs : dk.size = size) {W : World} (h : SWK enc k w0 blk off dk W) (i j : Nat) (hi : i < size) (hj : j < size) :
    ∃ F : Nat → World, (∀ q, (callFunc sf (#[.int .i64 i, .int .i64 j] ++ sb)).run P (W.drewN q) = .ok (.value (.tuple #[])) (F q)) ∧ (∀ q, SWK enc k w0 blk off (swp dk i j) (F q)) ∧ ∀ q, Keep blk W (F q) := by
  obtain ⟨d0, h0, h1⟩ := D.holds
  refine ⟨fun q => ((W.drewN q).setCells blk (off + i * k) (enc dk[j]!)).setCells blk (off + j * k) (enc dk[i]!), fun q => D.swap (W.drewN q) dk ((h.drewN q).holds D.hblk h0 (hs.trans h1.symm)) hs i j hi hj,
    fun q => (h.drewN q).swap D.hk D.hblk i j (hs ▸ hi) (hs ▸ hj), fun q b o v hb hc => ?_⟩
  rw [SWK.cell_swap _ _ _ _ _ _ _ _ hb]; exact hc

set_option maxHeartbeats 2000000 in
set_option maxRecDepth 100000 in
theorem swapRange_cells (L : LaysGt.n49 P ρ) {enc : α → List Value} {k : Nat} {lt : α → α → Bool} {g : Nat} {lb : Array Value} {sf : Nat} {sb : Array Value} {blk off size : Nat} {w0 : World} (D : Data P enc k lt g lb sf sb blk off size w0)
    (d : Array α) (hs : d.size = size) (W : World) (hW : SWK enc k w0 blk off d W) (a b n : Nat) (h1 : a + n ≤ b) (h2 : b + n ≤ size) :
    Calls P (ρ.f 49) #[.agg #[.func (.func g) #[] lb, .func (.func sf) #[] sb], .int .i64 a, .int .i64 b, .int .i64 n] W fun e w' => e = .returned (.tuple #[]) ∧ SWK enc k w0 blk off (swr d a b n) w' ∧ Keep blk W w' := by
  have mixed := L.mixed; have t0 := L.t0; have a0 := L.a0; have z0 := L.z0; have v0 := L.v0; have t3 := L.t3; have a3 := L.a3; have z3 := L.z3; have v3 := L.v3; have t4 := L.t4; have a4 := L.a4; have z4 := L.z4; have v4 := L.v4; have t26 := L.t26; have a26 := L.a26; have z26 := L.z26; have v26 := L.v26; have t38 := L.t38; have a38 := L.a38; have z38 := L.z38; have v38 := L.v38; have t42 := L.t42; have a42 := L.a42; have z42 := L.z42; have v42 := L.v42
  have u42 := run_underlying L.t42
  have hbs : blk ≠ W.heap.size := by have := hW.le; have := D.hblk; omega
  have hsz := D.hsz
  go_enter L.f49, BodyGt.n49_ntmps ρ
  go_wp2
  go_loopw [8] (fun vi wr => ∃ i : Nat, vi = .int .i64 i ∧ i ≤ n ∧ SWK enc k w0 blk off (swr d a b i) wr ∧ wr.cell? ⟨W.heap.size, 1, none⟩ = some (.func (.func sf) #[] sb) ∧ Keep blk W wr) (fun vi _ => n - (intOf vi).toNat)
  case atStart => exact ⟨0, by go_num, by omega, hW.alloc _, by simp, Keep.alloc _ _ _⟩
  case round =>
    obtain ⟨i, rfl, hi, hS, hc, hK⟩ := hrel
    have AK : Hid (Keep blk W wr) := hK
    clear hK
    by_cases hlt : i < n
    · obtain ⟨F, hF, hF1, hF2⟩ := D.swaps (dk := swr d a b i) (by simp [hs]) hS (a + i) (b + i) (by omega) (by omega)
      have hc' : ∀ q, (F q).cell? ⟨W.heap.size, 1, none⟩ = some (.func (.func sf) #[] sb) := fun q => hF2 q _ _ _ (Ne.symm hbs) hc
      have AK2 : Hid (∀ q, Keep blk W (F q)) := fun q => AK.out.trans (hF2 q)
      have AF : Hid (∀ q, SWK enc k w0 blk off (swp (swr d a b i) (a + i) (b + i)) (F q)) := hF1
      have hF0 : (callFunc sf (#[.int .i64 ((a : Int) + i), .int .i64 ((b : Int) + i)] ++ sb)).run P wr = .ok (.value (.tuple #[])) (F 0) := by
        rw [show (a : Int) + i = ((a + i : Nat) : Int) by omega, show (b : Int) + i = ((b + i : Nat) : Int) by omega]; exact hF 0
      clear hF1 hF2 hS hF
      go_wp2
      go_roundw
      case rel => exact ⟨i + 1, by go_num, by omega, AF.out _, hc' _, AK2.out _⟩
      case measure => simp [intOf]; omega
    · have AS : Hid (SWK enc k w0 blk off (swr d a b i) wr) := hS
      clear hS
      go_wp2
      go_end0
      obtain rfl : i = n := by omega
      exact ⟨rfl, AS.out, AK.out⟩

set_option maxHeartbeats 2000000 in
set_option maxRecDepth 100000 in
theorem rotate_cells (L : LaysGt.n42 P ρ) {enc : α → List Value} {k : Nat} {lt : α → α → Bool} {g : Nat} {lb : Array Value} {sf : Nat} {sb : Array Value} {blk off size : Nat} {w0 : World} (D : Data P enc k lt g lb sf sb blk off size w0)
    (d : Array α) (hs : d.size = size) (W : World) (hW : SWK enc k w0 blk off d W) (a m b : Nat) (h1 : a < m) (h2 : m < b) (h3 : b ≤ size) :
    Calls P (ρ.f 42) #[.agg #[.func (.func g) #[] lb, .func (.func sf) #[] sb], .int .i64 a, .int .i64 m, .int .i64 b] W fun e w' => e = .returned (.tuple #[]) ∧ SWK enc k w0 blk off (rot d a m b) w' ∧ Keep blk W w' := by
  have mixed := L.mixed; have t0 := L.t0; have a0 := L.a0; have z0 := L.z0; have v0 := L.v0; have t3 := L.t3; have a3 := L.a3; have z3 := L.z3; have v3 := L.v3; have t4 := L.t4; have a4 := L.a4; have z4 := L.z4; have v4 := L.v4; have t26 := L.t26; have a26 := L.a26; have z26 := L.z26; have v26 := L.v26; have t38 := L.t38; have a38 := L.a38; have z38 := L.z38; have v38 := L.v38; have t42 := L.t42; have a42 := L.a42; have z42 := L.z42; have v42 := L.v42
  have u42 := run_underlying L.t42
  have hbs : blk ≠ W.heap.size := by have := hW.le; have := D.hblk; omega
  have hsz := D.hsz
  have e49 : ∀ args w, (callFunc (ρ.f 49) args).run P w = .ok (.enter (ρ.f 49) args) w := enters_of L.f49 (by kernel_rfl) rfl
  have LI : LaysGt.n49 P ρ := { L with }
  go_enter L.f42, BodyGt.n42_ntmps ρ
  go_wp2
  go_loopw [8, 9] (fun vi vj wr => ∃ (i j : Nat) (dk : Array α), vi = .int .i64 i ∧ vj = .int .i64 j ∧ 0 < i ∧ 0 < j ∧ i ≤ m ∧ m + j ≤ size ∧ dk.size = size ∧ rot dk (m - i) m (m + j) = rot d a m b ∧ SWK enc k w0 blk off dk wr ∧
      wr.cell? ⟨W.heap.size, 0, none⟩ = some (.func (.func g) #[] lb) ∧ wr.cell? ⟨W.heap.size, 1, none⟩ = some (.func (.func sf) #[] sb) ∧ Keep blk W wr) (fun vi vj _ => (intOf vi).toNat + (intOf vj).toNat)
  case atStart =>
    refine ⟨m - a, b - m, d, by go_num, by go_num, by omega, by omega, by omega, by omega, hs, ?_, hW.alloc _, by simp, by simp, Keep.alloc _ _ _⟩
    rw [show m - (m - a) = a by omega, show m + (b - m) = b by omega]
  case round =>
    obtain ⟨i, j, dk, rfl, rfl, hi, hj, him, hmj, hsk, hr, hS, c0, c1, hK⟩ := hrel
    have AR : Hid (rot dk (m - i) m (m + j) = rot d a m b) := hr
    have AK : Hid (Keep blk W wr) := hK
    clear hr hK
    by_cases hne : i = j
    · subst hne
      have hc := swapRange_cells LI D dk hsk wr hS (m - i) m i (by omega) (by omega)
      rw [show ((m - i : Nat) : Int) = (m : Int) - i by omega] at hc
      have AE : Hid (swr dk (m - i) m i = rot d a m b) := (swr_rot_eq dk m i him (by omega)).trans AR.out
      clear hS
      go_wp2_with (go_at_fn (ρ.f 49); refine hc.mono ?_; rintro e w' ⟨rfl, hS', hK'⟩)
      go_end0
      exact ⟨rfl, AE.out ▸ hS', AK.out.trans hK'⟩
    · by_cases hgt : j < i
      · have hc := swapRange_cells LI D dk hsk wr hS (m - i) m j (by omega) (by omega)
        rw [show ((m - i : Nat) : Int) = (m : Int) - i by omega] at hc
        have AE : Hid (rot (swr dk (m - i) m j) (m - (i - j)) m (m + j) = rot d a m b) := (swr_rot_gt dk m i j hj hgt him (by omega)).trans AR.out
        clear hS
        go_wp2_with (go_at_fn (ρ.f 49); refine hc.mono ?_; rintro e w' ⟨rfl, hS', hK'⟩)
        have c0' := hK' _ _ _ (Ne.symm hbs) c0
        have c1' := hK' _ _ _ (Ne.symm hbs) c1
        go_roundw
        case rel => exact ⟨i - j, j, _, by go_num, rfl, by omega, hj, by omega, hmj, by simp [hsk], AE.out, hS', c0', c1', AK.out.trans hK'⟩
        case measure => simp [intOf]; omega
      · have hc := swapRange_cells LI D dk hsk wr hS (m - i) (m + j - i) i (by omega) (by omega)
        rw [show ((m - i : Nat) : Int) = (m : Int) - i by omega, show ((m + j - i : Nat) : Int) = (m : Int) + j - i by omega] at hc
        have AE : Hid (rot (swr dk (m - i) (m + j - i) i) (m - i) m (m + (j - i)) = rot d a m b) := (swr_rot_lt dk m i j hi (by omega) him (by omega)).trans AR.out
        clear hS
        go_wp2_with (go_at_fn (ρ.f 49); refine hc.mono ?_; rintro e w' ⟨rfl, hS', hK'⟩)
        have c0' := hK' _ _ _ (Ne.symm hbs) c0
        have c1' := hK' _ _ _ (Ne.symm hbs) c1
        go_roundw
        case rel => exact ⟨i, j - i, _, rfl, by go_num, hi, by omega, him, by omega, by simp [hsk], AE.out, hS', c0', c1', AK.out.trans hK'⟩
        case measure => simp [intOf]; omega

theorem Data.lessCall {enc : α → List Value} {k : Nat} {lt : α → α → Bool} {g : Nat} {lb : Array Value} {sf : Nat} {sb : Array Value} {blk off size : Nat} {w0 : World} (D : Data P enc k lt g lb sf sb blk off size w0)
    {dk : Array α} (hs : dk.size = size) {W : World} (h : SWK enc k w0 blk off dk W) (i j : Nat) (hi : i < size) (hj : j < size) :
    Calls P g (#[.int .i64 i, .int .i64 j] ++ lb) W fun e w' => e = .returned (.bool (lt dk[i]! dk[j]!)) ∧ ∃ q, w' = W.drewN q := h.less D.less hs i j hi hj
theorem bs_go1 {q : Nat → Bool} {i j : Nat} (h : i < j) (hq : q ((i + j) / 2) = true) : bs q ((i + j) / 2 + 1) j = bs q i j := by
  conv => rhs; rw [bs]
  rw [if_pos h, if_pos hq]
theorem bs_go0 {q : Nat → Bool} {i j : Nat} (h : i < j) (hq : q ((i + j) / 2) = false) : bs q i ((i + j) / 2) = bs q i j := by
  conv => rhs; rw [bs]
  rw [if_pos h, if_neg (by simp [hq])]
theorem bs_stop (q : Nat → Bool) (i : Nat) : bs q i i = i := by rw [bs, if_neg (Nat.lt_irrefl _)]
@[simp] theorem size_sm (lt : α → α → Bool) : ∀ (f : Nat) (d : Array α) (a m b : Nat), (sm lt f d a m b).size = d.size
  | 0, _, _, _, _ => rfl
  | f + 1, d, a, m, b => by
    rw [sm]
    split
    · simp
    · split
      · simp
      · simp only
        repeat' split
        all_goals simp [size_sm lt f]

set_option maxHeartbeats 4000000 in
set_option maxRecDepth 100000 in
theorem symMerge_1 (L : LaysGt.n30 P ρ) {enc : α → List Value} {k : Nat} {lt : α → α → Bool} {g : Nat} {lb : Array Value} {sf : Nat} {sb : Array Value} {blk off size : Nat} {w0 : World} (D : Data P enc k lt g lb sf sb blk off size w0) (f : Nat)
    (d : Array α) (hs : d.size = size) (W : World) (hW : SWK enc k w0 blk off d W) (a m b : Nat) (hf : b - a ≤ f + 1) (h1 : a < m) (h2 : m < b) (h3 : b ≤ size) (c1 : m - a = 1) :
    Calls P (ρ.f 30) #[.agg #[.func (.func g) #[] lb, .func (.func sf) #[] sb], .int .i64 a, .int .i64 m, .int .i64 b] W fun e w' => e = .returned (.tuple #[]) ∧ SWK enc k w0 blk off (sm lt (f + 1) d a m b) w' ∧ Keep blk W w' := by
  have mixed := L.mixed; have t0 := L.t0; have a0 := L.a0; have z0 := L.z0; have v0 := L.v0; have t3 := L.t3; have a3 := L.a3; have z3 := L.z3; have v3 := L.v3; have t4 := L.t4; have a4 := L.a4; have z4 := L.z4; have v4 := L.v4; have t26 := L.t26; have a26 := L.a26; have z26 := L.z26; have v26 := L.v26; have t38 := L.t38; have a38 := L.a38; have z38 := L.z38; have v38 := L.v38; have t42 := L.t42; have a42 := L.a42; have z42 := L.z42; have v42 := L.v42; have t47 := L.t47; have a47 := L.a47; have z47 := L.z47; have v47 := L.v47
  have u42 := run_underlying L.t42
  have hbs : blk ≠ W.heap.size := by have := hW.le; have := D.hblk; omega
  have hsz := D.hsz
  have eg := D.eg
  have AS : Hid (sm lt (f + 1) d a m b = rot d a (a + 1) (bs (fun h => lt d[h]! d[a]!) m b)) := by unfold Hid; rw [sm, if_pos c1, show a + 1 = m by omega]
  have hma : (m : Int) - a = 1 := by omega
  go_enter L.f30, BodyGt.n30_ntmps ρ
  go_wp2
  go_loopw [8, 9] (fun vi vj wr => ∃ (i j : Nat), vi = .int .i64 i ∧ vj = .int .i64 j ∧ m ≤ i ∧ i ≤ j ∧ j ≤ b ∧ bs (fun h => lt d[h]! d[a]!) i j = bs (fun h => lt d[h]! d[a]!) m b ∧ SWK enc k w0 blk off d wr ∧
    wr.cell? ⟨W.heap.size, 0, none⟩ = some (.func (.func g) #[] lb) ∧ wr.cell? ⟨W.heap.size, 1, none⟩ = some (.func (.func sf) #[] sb) ∧ Keep blk W wr) (fun vi vj _ => (intOf vj).toNat - (intOf vi).toNat)
  case atStart => exact ⟨m, b, rfl, rfl, Nat.le_refl _, by omega, Nat.le_refl _, rfl, hW.alloc _, by simp, by simp, Keep.alloc _ _ _⟩
  case round =>
    obtain ⟨i, j, rfl, rfl, hi, hij, hj, hb, hS, c0, c1', hK⟩ := hrel
    have AB : Hid (bs (fun h => lt d[h]! d[a]!) i j = bs (fun h => lt d[h]! d[a]!) m b) := hb
    have AK : Hid (Keep blk W wr) := hK
    have ASW : Hid (SWK enc k w0 blk off d wr) := hS
    clear hb hK hS
    by_cases hlt : i < j
    · have hl := D.lessCall hs ASW.out ((i + j) / 2) a (by omega) (by omega)
      rw [show (((i + j) / 2 : Nat) : Int) = ((i : Int) + j) / 2 by omega] at hl
      cases hlv : lt d[(i + j) / 2]! d[a]! with
      | true =>
        rw [hlv] at hl
        go_wp2_with (go_at_fn g; refine hl.mono ?_; rintro e w' ⟨rfl, q, rfl⟩)
        go_roundw
        case rel => exact ⟨(i + j) / 2 + 1, j, by go_num, rfl, by omega, by omega, hj, (bs_go1 (q := fun h => lt d[h]! d[a]!) hlt hlv).trans AB.out, ASW.out.drewN q, c0, c1', AK.out.drewN q⟩
        case measure => simp [intOf]; omega
      | false =>
        rw [hlv] at hl
        go_wp2_with (go_at_fn g; refine hl.mono ?_; rintro e w' ⟨rfl, q, rfl⟩)
        go_roundw
        case rel => exact ⟨i, (i + j) / 2, rfl, by go_num, hi, by omega, by omega, (bs_go0 (q := fun h => lt d[h]! d[a]!) hlt hlv).trans AB.out, ASW.out.drewN q, c0, c1', AK.out.drewN q⟩
        case measure => simp [intOf]; omega
    · obtain rfl : i = j := by omega
      have AE : Hid (sm lt (f + 1) d a m b = rot d a (a + 1) i) := by unfold Hid; rw [AS.out, ← AB.out, bs_stop]
      have hSR : Hid (SWK enc k w0 blk off (rot d a (a + 1) (a + 1)) wr) := by unfold Hid; rw [rot_self]; exact ASW.out
      clear AS AB ASW c0
      go_wp2
      go_loopw [11] (fun vk w2 => ∃ kk : Nat, vk = .int .i64 kk ∧ a ≤ kk ∧ kk + 1 ≤ i ∧ SWK enc k w0 blk off (rot d a (a + 1) (kk + 1)) w2 ∧ w2.cell? ⟨W.heap.size, 1, none⟩ = some (.func (.func sf) #[] sb) ∧ Keep blk W w2) (fun vk _ => i - (intOf vk).toNat)
      case atStart => exact ⟨a, rfl, Nat.le_refl _, by omega, hSR.out, c1', AK.out⟩
      case round =>
        clear c1'
        obtain ⟨kk, rfl, hka, hki, hS2, c2', hK2⟩ := hrel
        have AK2 : Hid (Keep blk W wr) := hK2
        clear hK2 AK hSR
        by_cases hlt2 : kk + 1 < i
        · have z0 : (kk : Int) < (i : Int) - 1 := by omega
          obtain ⟨F, hF, hF1, hF2⟩ := D.swaps (dk := rot d a (a + 1) (kk + 1)) (by simp [hs]) hS2 kk (kk + 1) (by omega) (by omega)
          have hc' : ∀ q, (F q).cell? ⟨W.heap.size, 1, none⟩ = some (.func (.func sf) #[] sb) := fun q => hF2 q _ _ _ (Ne.symm hbs) c2'
          have AK3 : Hid (∀ q, Keep blk W (F q)) := fun q => AK2.out.trans (hF2 q)
          have hF0 : (callFunc sf (#[.int .i64 kk, .int .i64 ((kk : Int) + 1)] ++ sb)).run P wr = .ok (.value (.tuple #[])) (F 0) := by
            rw [show (kk : Int) + 1 = ((kk + 1 : Nat) : Int) by omega]; exact hF 0
          have AF : Hid (∀ q, SWK enc k w0 blk off (rot d a (a + 1) (kk + 2)) (F q)) := fun q => by rw [← rot_up d a kk hka (by omega)]; exact hF1 q
          clear hF hF1 hF2 hS2
          go_wp2
          go_roundw
          case rel => exact ⟨kk + 1, by go_num, by omega, by omega, AF.out _, hc' _, AK3.out _⟩
          case measure => simp [intOf]; omega
        · have z0 : ¬ (kk : Int) < (i : Int) - 1 := by omega
          obtain rfl : i = kk + 1 := by omega
          have AF : Hid (SWK enc k w0 blk off (rot d a (a + 1) (kk + 1)) wr) := hS2
          clear hS2
          go_wp2
          (try simp only [Exit.inBlock, Exit.then])
          refine bodyPost_ret (results_none rfl _ _ _) rfl ?_
          exact ⟨rfl, AE.out ▸ AF.out, AK2.out⟩
set_option maxHeartbeats 4000000 in
set_option maxRecDepth 100000 in
theorem symMerge_2 (L : LaysGt.n30 P ρ) {enc : α → List Value} {k : Nat} {lt : α → α → Bool} {g : Nat} {lb : Array Value} {sf : Nat} {sb : Array Value} {blk off size : Nat} {w0 : World} (D : Data P enc k lt g lb sf sb blk off size w0) (f : Nat)
    (d : Array α) (hs : d.size = size) (W : World) (hW : SWK enc k w0 blk off d W) (a m b : Nat) (hf : b - a ≤ f + 1) (h1 : a < m) (h2 : m < b) (h3 : b ≤ size) (c1 : ¬ m - a = 1) (c2 : b - m = 1) :
    Calls P (ρ.f 30) #[.agg #[.func (.func g) #[] lb, .func (.func sf) #[] sb], .int .i64 a, .int .i64 m, .int .i64 b] W fun e w' => e = .returned (.tuple #[]) ∧ SWK enc k w0 blk off (sm lt (f + 1) d a m b) w' ∧ Keep blk W w' := by
  have mixed := L.mixed; have t0 := L.t0; have a0 := L.a0; have z0 := L.z0; have v0 := L.v0; have t3 := L.t3; have a3 := L.a3; have z3 := L.z3; have v3 := L.v3; have t4 := L.t4; have a4 := L.a4; have z4 := L.z4; have v4 := L.v4; have t26 := L.t26; have a26 := L.a26; have z26 := L.z26; have v26 := L.v26; have t38 := L.t38; have a38 := L.a38; have z38 := L.z38; have v38 := L.v38; have t42 := L.t42; have a42 := L.a42; have z42 := L.z42; have v42 := L.v42; have t47 := L.t47; have a47 := L.a47; have z47 := L.z47; have v47 := L.v47
  have u42 := run_underlying L.t42
  have hbs : blk ≠ W.heap.size := by have := hW.le; have := D.hblk; omega
  have hsz := D.hsz
  have eg := D.eg
  have n1 : ¬ (m : Int) - a = 1 := by omega
  have n1b : ((m : Int) - a == 1) = false := beq_eq_false_iff_ne.mpr n1
  have AS : Hid (sm lt (f + 1) d a m b = rot d (bs (fun h => !lt d[m]! d[h]!) a m) m (m + 1)) := by unfold Hid; rw [sm, if_neg c1, if_pos c2, show m + 1 = b by omega]
  have hmb : (b : Int) - m = 1 := by omega
  go_enter L.f30, BodyGt.n30_ntmps ρ
  go_wp2
  go_loopw [12, 13] (fun vi vj wr => ∃ (i j : Nat), vi = .int .i64 i ∧ vj = .int .i64 j ∧ a ≤ i ∧ i ≤ j ∧ j ≤ m ∧ bs (fun h => !lt d[m]! d[h]!) i j = bs (fun h => !lt d[m]! d[h]!) a m ∧ SWK enc k w0 blk off d wr ∧
    wr.cell? ⟨W.heap.size, 0, none⟩ = some (.func (.func g) #[] lb) ∧ wr.cell? ⟨W.heap.size, 1, none⟩ = some (.func (.func sf) #[] sb) ∧ Keep blk W wr) (fun vi vj _ => (intOf vj).toNat - (intOf vi).toNat)
  case atStart => exact ⟨a, m, rfl, rfl, Nat.le_refl _, by omega, Nat.le_refl _, rfl, hW.alloc _, by simp, by simp, Keep.alloc _ _ _⟩
  case round =>
    obtain ⟨i, j, rfl, rfl, hi, hij, hj, hb, hS, c0, c1', hK⟩ := hrel
    have AB : Hid (bs (fun h => !lt d[m]! d[h]!) i j = bs (fun h => !lt d[m]! d[h]!) a m) := hb
    have AK : Hid (Keep blk W wr) := hK
    have ASW : Hid (SWK enc k w0 blk off d wr) := hS
    clear hb hK hS
    by_cases hlt : i < j
    · have hl := D.lessCall hs ASW.out m ((i + j) / 2) (by omega) (by omega)
      rw [show (((i + j) / 2 : Nat) : Int) = ((i : Int) + j) / 2 by omega] at hl
      cases hlv : lt d[m]! d[(i + j) / 2]! with
      | false =>
        rw [hlv] at hl
        go_wp2_with (go_at_fn g; refine hl.mono ?_; rintro e w' ⟨rfl, q, rfl⟩)
        go_roundw
        case rel => exact ⟨(i + j) / 2 + 1, j, by go_num, rfl, by omega, by omega, hj, (bs_go1 (q := fun h => !lt d[m]! d[h]!) hlt (by simp [hlv])).trans AB.out, ASW.out.drewN q, c0, c1', AK.out.drewN q⟩
        case measure => simp [intOf]; omega
      | true =>
        rw [hlv] at hl
        go_wp2_with (go_at_fn g; refine hl.mono ?_; rintro e w' ⟨rfl, q, rfl⟩)
        go_roundw
        case rel => exact ⟨i, (i + j) / 2, rfl, by go_num, hi, by omega, by omega, (bs_go0 (q := fun h => !lt d[m]! d[h]!) hlt (by simp [hlv])).trans AB.out, ASW.out.drewN q, c0, c1', AK.out.drewN q⟩
        case measure => simp [intOf]; omega
    · obtain rfl : i = j := by omega
      have AE : Hid (sm lt (f + 1) d a m b = rot d i m (m + 1)) := by unfold Hid; rw [AS.out, ← AB.out, bs_stop]
      have hSR : Hid (SWK enc k w0 blk off (rot d m m (m + 1)) wr) := by unfold Hid; rw [rot_self2]; exact ASW.out
      clear AS AB ASW c0
      go_wp2
      go_loopw [15] (fun vk w2 => ∃ kk : Nat, vk = .int .i64 kk ∧ i ≤ kk ∧ kk ≤ m ∧ SWK enc k w0 blk off (rot d kk m (m + 1)) w2 ∧ w2.cell? ⟨W.heap.size, 1, none⟩ = some (.func (.func sf) #[] sb) ∧ Keep blk W w2) (fun vk _ => (intOf vk).toNat)
      case atStart => exact ⟨m, rfl, hj, Nat.le_refl _, hSR.out, c1', AK.out⟩
      case round =>
        clear c1'
        obtain ⟨kk, rfl, hka, hki, hS2, c2', hK2⟩ := hrel
        have AK2 : Hid (Keep blk W wr) := hK2
        clear hK2 AK hSR
        by_cases hlt2 : i < kk
        · obtain ⟨F, hF, hF1, hF2⟩ := D.swaps (dk := rot d kk m (m + 1)) (by simp [hs]) hS2 kk (kk - 1) (by omega) (by omega)
          have hc' : ∀ q, (F q).cell? ⟨W.heap.size, 1, none⟩ = some (.func (.func sf) #[] sb) := fun q => hF2 q _ _ _ (Ne.symm hbs) c2'
          have AK3 : Hid (∀ q, Keep blk W (F q)) := fun q => AK2.out.trans (hF2 q)
          have hF0 : (callFunc sf (#[.int .i64 kk, .int .i64 ((kk : Int) - 1)] ++ sb)).run P wr = .ok (.value (.tuple #[])) (F 0) := by
            rw [show (kk : Int) - 1 = ((kk - 1 : Nat) : Int) by omega]; exact hF 0
          have AF : Hid (∀ q, SWK enc k w0 blk off (rot d (kk - 1) m (m + 1)) (F q)) := fun q => by rw [← rot_down d kk m (by omega) hki (by omega)]; exact hF1 q
          clear hF hF1 hF2 hS2
          go_wp2
          go_roundw
          case rel => exact ⟨kk - 1, by go_num, by omega, by omega, AF.out _, hc' _, AK3.out _⟩
          case measure => simp [intOf]; omega
        · obtain rfl : i = kk := by omega
          have AF : Hid (SWK enc k w0 blk off (rot d i m (m + 1)) wr) := hS2
          clear hS2
          go_wp2
          (try simp only [Exit.inBlock, Exit.then])
          refine bodyPost_ret (results_none rfl _ _ _) rfl ?_
          exact ⟨rfl, AE.out ▸ AF.out, AK2.out⟩
set_option maxHeartbeats 4000000 in
set_option maxRecDepth 100000 in
theorem symMerge_3 (L : LaysGt.n30 P ρ) {enc : α → List Value} {k : Nat} {lt : α → α → Bool} {g : Nat} {lb : Array Value} {sf : Nat} {sb : Array Value} {blk off size : Nat} {w0 : World} (D : Data P enc k lt g lb sf sb blk off size w0) (f : Nat)
    (IH : ∀ (d : Array α) (_ : d.size = size) (W : World) (_ : SWK enc k w0 blk off d W) (a m b : Nat) (_ : b - a ≤ f) (_ : a < m) (_ : m < b) (_ : b ≤ size),
      Calls P (ρ.f 30) #[.agg #[.func (.func g) #[] lb, .func (.func sf) #[] sb], .int .i64 a, .int .i64 m, .int .i64 b] W fun e w' => e = .returned (.tuple #[]) ∧ SWK enc k w0 blk off (sm lt f d a m b) w' ∧ Keep blk W w')
    (d : Array α) (hs : d.size = size) (W : World) (hW : SWK enc k w0 blk off d W) (a m b : Nat) (hf : b - a ≤ f + 1) (h1 : a < m) (h2 : m < b) (h3 : b ≤ size) (c1 : ¬ m - a = 1) (c2 : ¬ b - m = 1) (mid : Nat) (hmid : (a + b) / 2 = mid) (hmm : mid < m) :
    Calls P (ρ.f 30) #[.agg #[.func (.func g) #[] lb, .func (.func sf) #[] sb], .int .i64 a, .int .i64 m, .int .i64 b] W fun e w' => e = .returned (.tuple #[]) ∧ SWK enc k w0 blk off (sm lt (f + 1) d a m b) w' ∧ Keep blk W w' := by
  have mixed := L.mixed; have t0 := L.t0; have a0 := L.a0; have z0 := L.z0; have v0 := L.v0; have t3 := L.t3; have a3 := L.a3; have z3 := L.z3; have v3 := L.v3; have t4 := L.t4; have a4 := L.a4; have z4 := L.z4; have v4 := L.v4; have t26 := L.t26; have a26 := L.a26; have z26 := L.z26; have v26 := L.v26; have t38 := L.t38; have a38 := L.a38; have z38 := L.z38; have v38 := L.v38; have t42 := L.t42; have a42 := L.a42; have z42 := L.z42; have v42 := L.v42; have t47 := L.t47; have a47 := L.a47; have z47 := L.z47; have v47 := L.v47
  have u42 := run_underlying L.t42
  have hbs : blk ≠ W.heap.size := by have := hW.le; have := D.hblk; omega
  have hsz := D.hsz
  have eg := D.eg
  have AIH : Hid (∀ (d : Array α) (_ : d.size = size) (W : World) (_ : SWK enc k w0 blk off d W) (a m b : Nat) (_ : b - a ≤ f) (_ : a < m) (_ : m < b) (_ : b ≤ size),
      Calls P (ρ.f 30) #[.agg #[.func (.func g) #[] lb, .func (.func sf) #[] sb], .int .i64 a, .int .i64 m, .int .i64 b] W fun e w' => e = .returned (.tuple #[]) ∧ SWK enc k w0 blk off (sm lt f d a m b) w' ∧ Keep blk W w') := IH
  clear IH
  have e30 : ∀ args w, (callFunc (ρ.f 30) args).run P w = .ok (.enter (ρ.f 30) args) w := enters_of L.f30 (by kernel_rfl) rfl
  have e42 : ∀ args w, (callFunc (ρ.f 42) args).run P w = .ok (.enter (ρ.f 42) args) w := enters_of L.f42 (by kernel_rfl) rfl
  have LR : LaysGt.n42 P ρ := { L with }
  have n1 : ¬ (m : Int) - a = 1 := by omega
  have n1b : ((m : Int) - a == 1) = false := beq_eq_false_iff_ne.mpr n1
  have n2 : ¬ (b : Int) - m = 1 := by omega
  have n2b : ((b : Int) - m == 1) = false := beq_eq_false_iff_ne.mpr n2
  have AMI : Hid ((mid : Int) = ((a : Int) + b) / 2) := by unfold Hid; omega
  have y0 : ((a : Int) + b) / 2 < m := by omega
  have AS : Hid (sm lt (f + 1) d a m b = (if mid < mid + m - (bs (fun c => !lt d[mid + m - 1 - c]! d[c]!) (mid + m - b) mid) ∧ mid + m - (bs (fun c => !lt d[mid + m - 1 - c]! d[c]!) (mid + m - b) mid) < b then sm lt f (if a < (bs (fun c => !lt d[mid + m - 1 - c]! d[c]!) (mid + m - b) mid) ∧ (bs (fun c => !lt d[mid + m - 1 - c]! d[c]!) (mid + m - b) mid) < mid then sm lt f (if (bs (fun c => !lt d[mid + m - 1 - c]! d[c]!) (mid + m - b) mid) < m ∧ m < mid + m - (bs (fun c => !lt d[mid + m - 1 - c]! d[c]!) (mid + m - b) mid) then rot d (bs (fun c => !lt d[mid + m - 1 - c]! d[c]!) (mid + m - b) mid) m (mid + m - (bs (fun c => !lt d[mid + m - 1 - c]! d[c]!) (mid + m - b) mid)) else d) a (bs (fun c => !lt d[mid + m - 1 - c]! d[c]!) (mid + m - b) mid) mid else (if (bs (fun c => !lt d[mid + m - 1 - c]! d[c]!) (mid + m - b) mid) < m ∧ m < mid + m - (bs (fun c => !lt d[mid + m - 1 - c]! d[c]!) (mid + m - b) mid) then rot d (bs (fun c => !lt d[mid + m - 1 - c]! d[c]!) (mid + m - b) mid) m (mid + m - (bs (fun c => !lt d[mid + m - 1 - c]! d[c]!) (mid + m - b) mid)) else d)) mid (mid + m - (bs (fun c => !lt d[mid + m - 1 - c]! d[c]!) (mid + m - b) mid)) b else (if a < (bs (fun c => !lt d[mid + m - 1 - c]! d[c]!) (mid + m - b) mid) ∧ (bs (fun c => !lt d[mid + m - 1 - c]! d[c]!) (mid + m - b) mid) < mid then sm lt f (if (bs (fun c => !lt d[mid + m - 1 - c]! d[c]!) (mid + m - b) mid) < m ∧ m < mid + m - (bs (fun c => !lt d[mid + m - 1 - c]! d[c]!) (mid + m - b) mid) then rot d (bs (fun c => !lt d[mid + m - 1 - c]! d[c]!) (mid + m - b) mid) m (mid + m - (bs (fun c => !lt d[mid + m - 1 - c]! d[c]!) (mid + m - b) mid)) else d) a (bs (fun c => !lt d[mid + m - 1 - c]! d[c]!) (mid + m - b) mid) mid else (if (bs (fun c => !lt d[mid + m - 1 - c]! d[c]!) (mid + m - b) mid) < m ∧ m < mid + m - (bs (fun c => !lt d[mid + m - 1 - c]! d[c]!) (mid + m - b) mid) then rot d (bs (fun c => !lt d[mid + m - 1 - c]! d[c]!) (mid + m - b) mid) m (mid + m - (bs (fun c => !lt d[mid + m - 1 - c]! d[c]!) (mid + m - b) mid)) else d)))) := by
    unfold Hid; rw [sm, if_neg c1, if_neg c2]; simp only [hmid]; simp only [if_pos hmm]
  go_enter L.f30, BodyGt.n30_ntmps ρ
  go_wp2
  go_loopw [18, 19] (fun vi vj wr => ∃ (s r : Nat), vi = .int .i64 s ∧ vj = .int .i64 r ∧ (mid + m - b) ≤ s ∧ s ≤ r ∧ r ≤ mid ∧ bs (fun c => !lt d[mid + m - 1 - c]! d[c]!) s r = bs (fun c => !lt d[mid + m - 1 - c]! d[c]!) (mid + m - b) mid ∧ SWK enc k w0 blk off d wr ∧
    wr.cell? ⟨W.heap.size, 0, none⟩ = some (.func (.func g) #[] lb) ∧ wr.cell? ⟨W.heap.size, 1, none⟩ = some (.func (.func sf) #[] sb) ∧ Keep blk W wr) (fun vi vj _ => (intOf vj).toNat - (intOf vi).toNat)
  case atStart => exact ⟨(mid + m - b), mid, by go_num, by go_num, Nat.le_refl _, by omega, Nat.le_refl _, rfl, hW.alloc _, by simp, by simp, Keep.alloc _ _ _⟩
  case round =>
    obtain ⟨s, r, rfl, rfl, hi, hij, hj, hb, hS, c0, c1', hK⟩ := hrel
    have AB : Hid (bs (fun c => !lt d[mid + m - 1 - c]! d[c]!) s r = bs (fun c => !lt d[mid + m - 1 - c]! d[c]!) (mid + m - b) mid) := hb
    have AK : Hid (Keep blk W wr) := hK
    have ASW : Hid (SWK enc k w0 blk off d wr) := hS
    clear hb hK hS
    by_cases hlt : s < r
    · have hl := D.lessCall hs ASW.out (mid + m - 1 - (s + r) / 2) ((s + r) / 2) (by omega) (by omega)
      rw [show ((mid + m - 1 - (s + r) / 2 : Nat) : Int) = ((a : Int) + b) / 2 + m - 1 - ((s : Int) + r) / 2 by omega, show (((s + r) / 2 : Nat) : Int) = ((s : Int) + r) / 2 by omega] at hl
      cases hlv : lt d[mid + m - 1 - (s + r) / 2]! d[(s + r) / 2]! with
      | false =>
        rw [hlv] at hl
        go_wp2_with (go_at_fn g; refine hl.mono ?_; rintro e w' ⟨rfl, q, rfl⟩)
        go_roundw
        case rel => exact ⟨(s + r) / 2 + 1, r, by go_num, rfl, by omega, by omega, hj, (bs_go1 (q := (fun c => !lt d[mid + m - 1 - c]! d[c]!)) hlt (by simp [hlv])).trans AB.out, ASW.out.drewN q, c0, c1', AK.out.drewN q⟩
        case measure => simp [intOf]; omega
      | true =>
        rw [hlv] at hl
        go_wp2_with (go_at_fn g; refine hl.mono ?_; rintro e w' ⟨rfl, q, rfl⟩)
        go_roundw
        case rel => exact ⟨s, (s + r) / 2, rfl, by go_num, hi, by omega, by omega, (bs_go0 (q := (fun c => !lt d[mid + m - 1 - c]! d[c]!)) hlt (by simp [hlv])).trans AB.out, ASW.out.drewN q, c0, c1', AK.out.drewN q⟩
        case measure => simp [intOf]; omega
    · obtain rfl : s = r := by omega
      have AE : Hid (sm lt (f + 1) d a m b = (if mid < mid + m - s ∧ mid + m - s < b then sm lt f (if a < s ∧ s < mid then sm lt f (if s < m ∧ m < mid + m - s then rot d s m (mid + m - s) else d) a s mid else (if s < m ∧ m < mid + m - s then rot d s m (mid + m - s) else d)) mid (mid + m - s) b else (if a < s ∧ s < mid then sm lt f (if s < m ∧ m < mid + m - s then rot d s m (mid + m - s) else d) a s mid else (if s < m ∧ m < mid + m - s then rot d s m (mid + m - s) else d)))) := by unfold Hid; rw [AS.out, ← AB.out, bs_stop]
      obtain ⟨e, he⟩ : ∃ e, mid + m - s = e := ⟨_, rfl⟩
      have AEI : Hid ((e : Int) = ((a : Int) + b) / 2 + m - s) := by unfold Hid; omega
      rw [he] at AE
      clear AS AB
      by_cases hx : s < mid
      · by_cases ha : a < s
        · by_cases he2 : e < b
          ·
            have u1 : (s : Int) < m := by omega
            have u2 : (m : Int) < ((a : Int) + b) / 2 + m - s := by omega
            have u3 : (a : Int) < s := by omega
            have u4 : (s : Int) < ((a : Int) + b) / 2 := by omega
            have u5 : ((a : Int) + b) / 2 < ((a : Int) + b) / 2 + m - s := by omega
            have u6 : ((a : Int) + b) / 2 + m - s < b := by omega
            have AX : Hid (sm lt (f + 1) d a m b = (sm lt f (sm lt f (rot d s m e) a s mid) mid e b)) := by unfold Hid; rw [AE.out, if_pos (show s < m ∧ m < e by omega), if_pos (show a < s ∧ s < mid by omega), if_pos (show mid < e ∧ e < b by omega)]
            clear AE
            have hc1 := rotate_cells LR D d hs _ ASW.out s m e (by omega) (by omega) (by omega)
            rw [AEI.out] at hc1
            go_wp2_with (go_at_fn (ρ.f 42); refine hc1.mono ?_; rintro _ w1 ⟨rfl, hS1, hK1⟩; have BS1 : Hid (SWK enc k w0 blk off (rot d s m e) w1) := hS1; have BK1 : Hid (Keep blk W w1) := AK.out.trans hK1; have k1 := hK1 _ _ _ (Ne.symm hbs) c0; have l1 := hK1 _ _ _ (Ne.symm hbs) c1'; clear hS1 hK1)
            clear hc1
            have hc2 := AIH.out (rot d s m e) (by simp [hs]) _ BS1.out a s mid (by omega) (by omega) (by omega) (by omega)
            rw [AMI.out] at hc2
            go_wp2_with (go_at_fn (ρ.f 30); refine hc2.mono ?_; rintro _ w2 ⟨rfl, hS2, hK2⟩; have BS2 : Hid (SWK enc k w0 blk off (sm lt f (rot d s m e) a s mid) w2) := hS2; have BK2 : Hid (Keep blk W w2) := BK1.out.trans hK2; have k2 := hK2 _ _ _ (Ne.symm hbs) k1; have l2 := hK2 _ _ _ (Ne.symm hbs) l1; clear hS2 hK2)
            clear hc2
            have hc3 := AIH.out (sm lt f (rot d s m e) a s mid) (by simp [hs]) _ BS2.out mid e b (by omega) (by omega) (by omega) (by omega)
            rw [AMI.out, AEI.out] at hc3
            go_wp2_with (go_at_fn (ρ.f 30); refine hc3.mono ?_; rintro _ w3 ⟨rfl, hS3, hK3⟩; have BS3 : Hid (SWK enc k w0 blk off (sm lt f (sm lt f (rot d s m e) a s mid) mid e b) w3) := hS3; have BK3 : Hid (Keep blk W w3) := BK2.out.trans hK3; have k3 := hK3 _ _ _ (Ne.symm hbs) k2; have l3 := hK3 _ _ _ (Ne.symm hbs) l2; clear hS3 hK3)
            clear hc3
            go_end0
            exact ⟨rfl, by rw [AX.out]; exact BS3.out, BK3.out⟩
          ·
            have u1 : (s : Int) < m := by omega
            have u2 : (m : Int) < ((a : Int) + b) / 2 + m - s := by omega
            have u3 : (a : Int) < s := by omega
            have u4 : (s : Int) < ((a : Int) + b) / 2 := by omega
            have u5 : ((a : Int) + b) / 2 < ((a : Int) + b) / 2 + m - s := by omega
            have u6 : ¬ (((a : Int) + b) / 2 + m - s < b) := by omega
            have AX : Hid (sm lt (f + 1) d a m b = (sm lt f (rot d s m e) a s mid)) := by unfold Hid; rw [AE.out, if_pos (show s < m ∧ m < e by omega), if_pos (show a < s ∧ s < mid by omega), if_neg (show ¬ (mid < e ∧ e < b) by omega)]
            clear AE
            have hc1 := rotate_cells LR D d hs _ ASW.out s m e (by omega) (by omega) (by omega)
            rw [AEI.out] at hc1
            go_wp2_with (go_at_fn (ρ.f 42); refine hc1.mono ?_; rintro _ w1 ⟨rfl, hS1, hK1⟩; have BS1 : Hid (SWK enc k w0 blk off (rot d s m e) w1) := hS1; have BK1 : Hid (Keep blk W w1) := AK.out.trans hK1; have k1 := hK1 _ _ _ (Ne.symm hbs) c0; have l1 := hK1 _ _ _ (Ne.symm hbs) c1'; clear hS1 hK1)
            clear hc1
            have hc2 := AIH.out (rot d s m e) (by simp [hs]) _ BS1.out a s mid (by omega) (by omega) (by omega) (by omega)
            rw [AMI.out] at hc2
            go_wp2_with (go_at_fn (ρ.f 30); refine hc2.mono ?_; rintro _ w2 ⟨rfl, hS2, hK2⟩; have BS2 : Hid (SWK enc k w0 blk off (sm lt f (rot d s m e) a s mid) w2) := hS2; have BK2 : Hid (Keep blk W w2) := BK1.out.trans hK2; have k2 := hK2 _ _ _ (Ne.symm hbs) k1; have l2 := hK2 _ _ _ (Ne.symm hbs) l1; clear hS2 hK2)
            clear hc2
            go_end0
            exact ⟨rfl, by rw [AX.out]; exact BS2.out, BK2.out⟩
        · by_cases he2 : e < b
          ·
            have u1 : (s : Int) < m := by omega
            have u2 : (m : Int) < ((a : Int) + b) / 2 + m - s := by omega
            have u3 : ¬ ((a : Int) < s) := by omega
            have u5 : ((a : Int) + b) / 2 < ((a : Int) + b) / 2 + m - s := by omega
            have u6 : ((a : Int) + b) / 2 + m - s < b := by omega
            have AX : Hid (sm lt (f + 1) d a m b = (sm lt f (rot d s m e) mid e b)) := by unfold Hid; rw [AE.out, if_pos (show s < m ∧ m < e by omega), if_neg (show ¬ (a < s ∧ s < mid) by omega), if_pos (show mid < e ∧ e < b by omega)]
            clear AE
            have hc1 := rotate_cells LR D d hs _ ASW.out s m e (by omega) (by omega) (by omega)
            rw [AEI.out] at hc1
            go_wp2_with (go_at_fn (ρ.f 42); refine hc1.mono ?_; rintro _ w1 ⟨rfl, hS1, hK1⟩; have BS1 : Hid (SWK enc k w0 blk off (rot d s m e) w1) := hS1; have BK1 : Hid (Keep blk W w1) := AK.out.trans hK1; have k1 := hK1 _ _ _ (Ne.symm hbs) c0; have l1 := hK1 _ _ _ (Ne.symm hbs) c1'; clear hS1 hK1)
            clear hc1
            have hc2 := AIH.out (rot d s m e) (by simp [hs]) _ BS1.out mid e b (by omega) (by omega) (by omega) (by omega)
            rw [AMI.out, AEI.out] at hc2
            go_wp2_with (go_at_fn (ρ.f 30); refine hc2.mono ?_; rintro _ w2 ⟨rfl, hS2, hK2⟩; have BS2 : Hid (SWK enc k w0 blk off (sm lt f (rot d s m e) mid e b) w2) := hS2; have BK2 : Hid (Keep blk W w2) := BK1.out.trans hK2; have k2 := hK2 _ _ _ (Ne.symm hbs) k1; have l2 := hK2 _ _ _ (Ne.symm hbs) l1; clear hS2 hK2)
            clear hc2
            go_end0
            exact ⟨rfl, by rw [AX.out]; exact BS2.out, BK2.out⟩
          ·
            have u1 : (s : Int) < m := by omega
            have u2 : (m : Int) < ((a : Int) + b) / 2 + m - s := by omega
            have u3 : ¬ ((a : Int) < s) := by omega
            have u5 : ((a : Int) + b) / 2 < ((a : Int) + b) / 2 + m - s := by omega
            have u6 : ¬ (((a : Int) + b) / 2 + m - s < b) := by omega
            have AX : Hid (sm lt (f + 1) d a m b = (rot d s m e)) := by unfold Hid; rw [AE.out, if_pos (show s < m ∧ m < e by omega), if_neg (show ¬ (a < s ∧ s < mid) by omega), if_neg (show ¬ (mid < e ∧ e < b) by omega)]
            clear AE
            have hc1 := rotate_cells LR D d hs _ ASW.out s m e (by omega) (by omega) (by omega)
            rw [AEI.out] at hc1
            go_wp2_with (go_at_fn (ρ.f 42); refine hc1.mono ?_; rintro _ w1 ⟨rfl, hS1, hK1⟩; have BS1 : Hid (SWK enc k w0 blk off (rot d s m e) w1) := hS1; have BK1 : Hid (Keep blk W w1) := AK.out.trans hK1; have k1 := hK1 _ _ _ (Ne.symm hbs) c0; have l1 := hK1 _ _ _ (Ne.symm hbs) c1'; clear hS1 hK1)
            clear hc1
            go_end0
            exact ⟨rfl, by rw [AX.out]; exact BS1.out, BK1.out⟩
      ·
        have u1 : (s : Int) < m := by omega
        have u2 : ¬ ((m : Int) < ((a : Int) + b) / 2 + m - s) := by omega
        have u3 : (a : Int) < s := by omega
        have u4 : ¬ ((s : Int) < ((a : Int) + b) / 2) := by omega
        have u5 : ((a : Int) + b) / 2 < ((a : Int) + b) / 2 + m - s := by omega
        have u6 : ((a : Int) + b) / 2 + m - s < b := by omega
        have AX : Hid (sm lt (f + 1) d a m b = (sm lt f d mid e b)) := by unfold Hid; rw [AE.out, if_neg (show ¬ (s < m ∧ m < e) by omega), if_neg (show ¬ (a < s ∧ s < mid) by omega), if_pos (show mid < e ∧ e < b by omega)]
        clear AE
        have hc1 := AIH.out d hs _ ASW.out mid e b (by omega) (by omega) (by omega) (by omega)
        rw [AMI.out, AEI.out] at hc1
        go_wp2_with (go_at_fn (ρ.f 30); refine hc1.mono ?_; rintro _ w1 ⟨rfl, hS1, hK1⟩; have BS1 : Hid (SWK enc k w0 blk off (sm lt f d mid e b) w1) := hS1; have BK1 : Hid (Keep blk W w1) := AK.out.trans hK1; have k1 := hK1 _ _ _ (Ne.symm hbs) c0; have l1 := hK1 _ _ _ (Ne.symm hbs) c1'; clear hS1 hK1)
        clear hc1
        go_end0
        exact ⟨rfl, by rw [AX.out]; exact BS1.out, BK1.out⟩
set_option maxHeartbeats 4000000 in
set_option maxRecDepth 100000 in
theorem symMerge_4 (L : LaysGt.n30 P ρ) {enc : α → List Value} {k : Nat} {lt : α → α → Bool} {g : Nat} {lb : Array Value} {sf : Nat} {sb : Array Value} {blk off size : Nat} {w0 : World} (D : Data P enc k lt g lb sf sb blk off size w0) (f : Nat)
    (IH : ∀ (d : Array α) (_ : d.size = size) (W : World) (_ : SWK enc k w0 blk off d W) (a m b : Nat) (_ : b - a ≤ f) (_ : a < m) (_ : m < b) (_ : b ≤ size),
      Calls P (ρ.f 30) #[.agg #[.func (.func g) #[] lb, .func (.func sf) #[] sb], .int .i64 a, .int .i64 m, .int .i64 b] W fun e w' => e = .returned (.tuple #[]) ∧ SWK enc k w0 blk off (sm lt f d a m b) w' ∧ Keep blk W w')
    (d : Array α) (hs : d.size = size) (W : World) (hW : SWK enc k w0 blk off d W) (a m b : Nat) (hf : b - a ≤ f + 1) (h1 : a < m) (h2 : m < b) (h3 : b ≤ size) (c1 : ¬ m - a = 1) (c2 : ¬ b - m = 1) (mid : Nat) (hmid : (a + b) / 2 = mid) (hmm : ¬ mid < m) :
    Calls P (ρ.f 30) #[.agg #[.func (.func g) #[] lb, .func (.func sf) #[] sb], .int .i64 a, .int .i64 m, .int .i64 b] W fun e w' => e = .returned (.tuple #[]) ∧ SWK enc k w0 blk off (sm lt (f + 1) d a m b) w' ∧ Keep blk W w' := by
  have mixed := L.mixed; have t0 := L.t0; have a0 := L.a0; have z0 := L.z0; have v0 := L.v0; have t3 := L.t3; have a3 := L.a3; have z3 := L.z3; have v3 := L.v3; have t4 := L.t4; have a4 := L.a4; have z4 := L.z4; have v4 := L.v4; have t26 := L.t26; have a26 := L.a26; have z26 := L.z26; have v26 := L.v26; have t38 := L.t38; have a38 := L.a38; have z38 := L.z38; have v38 := L.v38; have t42 := L.t42; have a42 := L.a42; have z42 := L.z42; have v42 := L.v42; have t47 := L.t47; have a47 := L.a47; have z47 := L.z47; have v47 := L.v47
  have u42 := run_underlying L.t42
  have hbs : blk ≠ W.heap.size := by have := hW.le; have := D.hblk; omega
  have hsz := D.hsz
  have eg := D.eg
  have AIH : Hid (∀ (d : Array α) (_ : d.size = size) (W : World) (_ : SWK enc k w0 blk off d W) (a m b : Nat) (_ : b - a ≤ f) (_ : a < m) (_ : m < b) (_ : b ≤ size),
      Calls P (ρ.f 30) #[.agg #[.func (.func g) #[] lb, .func (.func sf) #[] sb], .int .i64 a, .int .i64 m, .int .i64 b] W fun e w' => e = .returned (.tuple #[]) ∧ SWK enc k w0 blk off (sm lt f d a m b) w' ∧ Keep blk W w') := IH
  clear IH
  have e30 : ∀ args w, (callFunc (ρ.f 30) args).run P w = .ok (.enter (ρ.f 30) args) w := enters_of L.f30 (by kernel_rfl) rfl
  have e42 : ∀ args w, (callFunc (ρ.f 42) args).run P w = .ok (.enter (ρ.f 42) args) w := enters_of L.f42 (by kernel_rfl) rfl
  have LR : LaysGt.n42 P ρ := { L with }
  have n1 : ¬ (m : Int) - a = 1 := by omega
  have n1b : ((m : Int) - a == 1) = false := beq_eq_false_iff_ne.mpr n1
  have n2 : ¬ (b : Int) - m = 1 := by omega
  have n2b : ((b : Int) - m == 1) = false := beq_eq_false_iff_ne.mpr n2
  have AMI : Hid ((mid : Int) = ((a : Int) + b) / 2) := by unfold Hid; omega
  have y0 : ¬ ((a : Int) + b) / 2 < m := by omega
  have AS : Hid (sm lt (f + 1) d a m b = (if mid < mid + m - (bs (fun c => !lt d[mid + m - 1 - c]! d[c]!) a m) ∧ mid + m - (bs (fun c => !lt d[mid + m - 1 - c]! d[c]!) a m) < b then sm lt f (if a < (bs (fun c => !lt d[mid + m - 1 - c]! d[c]!) a m) ∧ (bs (fun c => !lt d[mid + m - 1 - c]! d[c]!) a m) < mid then sm lt f (if (bs (fun c => !lt d[mid + m - 1 - c]! d[c]!) a m) < m ∧ m < mid + m - (bs (fun c => !lt d[mid + m - 1 - c]! d[c]!) a m) then rot d (bs (fun c => !lt d[mid + m - 1 - c]! d[c]!) a m) m (mid + m - (bs (fun c => !lt d[mid + m - 1 - c]! d[c]!) a m)) else d) a (bs (fun c => !lt d[mid + m - 1 - c]! d[c]!) a m) mid else (if (bs (fun c => !lt d[mid + m - 1 - c]! d[c]!) a m) < m ∧ m < mid + m - (bs (fun c => !lt d[mid + m - 1 - c]! d[c]!) a m) then rot d (bs (fun c => !lt d[mid + m - 1 - c]! d[c]!) a m) m (mid + m - (bs (fun c => !lt d[mid + m - 1 - c]! d[c]!) a m)) else d)) mid (mid + m - (bs (fun c => !lt d[mid + m - 1 - c]! d[c]!) a m)) b else (if a < (bs (fun c => !lt d[mid + m - 1 - c]! d[c]!) a m) ∧ (bs (fun c => !lt d[mid + m - 1 - c]! d[c]!) a m) < mid then sm lt f (if (bs (fun c => !lt d[mid + m - 1 - c]! d[c]!) a m) < m ∧ m < mid + m - (bs (fun c => !lt d[mid + m - 1 - c]! d[c]!) a m) then rot d (bs (fun c => !lt d[mid + m - 1 - c]! d[c]!) a m) m (mid + m - (bs (fun c => !lt d[mid + m - 1 - c]! d[c]!) a m)) else d) a (bs (fun c => !lt d[mid + m - 1 - c]! d[c]!) a m) mid else (if (bs (fun c => !lt d[mid + m - 1 - c]! d[c]!) a m) < m ∧ m < mid + m - (bs (fun c => !lt d[mid + m - 1 - c]! d[c]!) a m) then rot d (bs (fun c => !lt d[mid + m - 1 - c]! d[c]!) a m) m (mid + m - (bs (fun c => !lt d[mid + m - 1 - c]! d[c]!) a m)) else d)))) := by
    unfold Hid; rw [sm, if_neg c1, if_neg c2]; simp only [hmid]; simp only [if_neg hmm]
  go_enter L.f30, BodyGt.n30_ntmps ρ
  go_wp2
  go_loopw [18, 19] (fun vi vj wr => ∃ (s r : Nat), vi = .int .i64 s ∧ vj = .int .i64 r ∧ a ≤ s ∧ s ≤ r ∧ r ≤ m ∧ bs (fun c => !lt d[mid + m - 1 - c]! d[c]!) s r = bs (fun c => !lt d[mid + m - 1 - c]! d[c]!) a m ∧ SWK enc k w0 blk off d wr ∧
    wr.cell? ⟨W.heap.size, 0, none⟩ = some (.func (.func g) #[] lb) ∧ wr.cell? ⟨W.heap.size, 1, none⟩ = some (.func (.func sf) #[] sb) ∧ Keep blk W wr) (fun vi vj _ => (intOf vj).toNat - (intOf vi).toNat)
  case atStart => exact ⟨a, m, by go_num, by go_num, Nat.le_refl _, by omega, Nat.le_refl _, rfl, hW.alloc _, by simp, by simp, Keep.alloc _ _ _⟩
  case round =>
    obtain ⟨s, r, rfl, rfl, hi, hij, hj, hb, hS, c0, c1', hK⟩ := hrel
    have AB : Hid (bs (fun c => !lt d[mid + m - 1 - c]! d[c]!) s r = bs (fun c => !lt d[mid + m - 1 - c]! d[c]!) a m) := hb
    have AK : Hid (Keep blk W wr) := hK
    have ASW : Hid (SWK enc k w0 blk off d wr) := hS
    clear hb hK hS
    by_cases hlt : s < r
    · have hl := D.lessCall hs ASW.out (mid + m - 1 - (s + r) / 2) ((s + r) / 2) (by omega) (by omega)
      rw [show ((mid + m - 1 - (s + r) / 2 : Nat) : Int) = ((a : Int) + b) / 2 + m - 1 - ((s : Int) + r) / 2 by omega, show (((s + r) / 2 : Nat) : Int) = ((s : Int) + r) / 2 by omega] at hl
      cases hlv : lt d[mid + m - 1 - (s + r) / 2]! d[(s + r) / 2]! with
      | false =>
        rw [hlv] at hl
        go_wp2_with (go_at_fn g; refine hl.mono ?_; rintro e w' ⟨rfl, q, rfl⟩)
        go_roundw
        case rel => exact ⟨(s + r) / 2 + 1, r, by go_num, rfl, by omega, by omega, hj, (bs_go1 (q := (fun c => !lt d[mid + m - 1 - c]! d[c]!)) hlt (by simp [hlv])).trans AB.out, ASW.out.drewN q, c0, c1', AK.out.drewN q⟩
        case measure => simp [intOf]; omega
      | true =>
        rw [hlv] at hl
        go_wp2_with (go_at_fn g; refine hl.mono ?_; rintro e w' ⟨rfl, q, rfl⟩)
        go_roundw
        case rel => exact ⟨s, (s + r) / 2, rfl, by go_num, hi, by omega, by omega, (bs_go0 (q := (fun c => !lt d[mid + m - 1 - c]! d[c]!)) hlt (by simp [hlv])).trans AB.out, ASW.out.drewN q, c0, c1', AK.out.drewN q⟩
        case measure => simp [intOf]; omega
    · obtain rfl : s = r := by omega
      have AE : Hid (sm lt (f + 1) d a m b = (if mid < mid + m - s ∧ mid + m - s < b then sm lt f (if a < s ∧ s < mid then sm lt f (if s < m ∧ m < mid + m - s then rot d s m (mid + m - s) else d) a s mid else (if s < m ∧ m < mid + m - s then rot d s m (mid + m - s) else d)) mid (mid + m - s) b else (if a < s ∧ s < mid then sm lt f (if s < m ∧ m < mid + m - s then rot d s m (mid + m - s) else d) a s mid else (if s < m ∧ m < mid + m - s then rot d s m (mid + m - s) else d)))) := by unfold Hid; rw [AS.out, ← AB.out, bs_stop]
      obtain ⟨e, he⟩ : ∃ e, mid + m - s = e := ⟨_, rfl⟩
      have AEI : Hid ((e : Int) = ((a : Int) + b) / 2 + m - s) := by unfold Hid; omega
      rw [he] at AE
      clear AS AB
      by_cases hx : s < m
      · by_cases ha : a < s
        · by_cases he2 : e < b
          ·
            have u1 : (s : Int) < m := by omega
            have u2 : (m : Int) < ((a : Int) + b) / 2 + m - s := by omega
            have u3 : (a : Int) < s := by omega
            have u4 : (s : Int) < ((a : Int) + b) / 2 := by omega
            have u5 : ((a : Int) + b) / 2 < ((a : Int) + b) / 2 + m - s := by omega
            have u6 : ((a : Int) + b) / 2 + m - s < b := by omega
            have AX : Hid (sm lt (f + 1) d a m b = (sm lt f (sm lt f (rot d s m e) a s mid) mid e b)) := by unfold Hid; rw [AE.out, if_pos (show s < m ∧ m < e by omega), if_pos (show a < s ∧ s < mid by omega), if_pos (show mid < e ∧ e < b by omega)]
            clear AE
            have hc1 := rotate_cells LR D d hs _ ASW.out s m e (by omega) (by omega) (by omega)
            rw [AEI.out] at hc1
            go_wp2_with (go_at_fn (ρ.f 42); refine hc1.mono ?_; rintro _ w1 ⟨rfl, hS1, hK1⟩; have BS1 : Hid (SWK enc k w0 blk off (rot d s m e) w1) := hS1; have BK1 : Hid (Keep blk W w1) := AK.out.trans hK1; have k1 := hK1 _ _ _ (Ne.symm hbs) c0; have l1 := hK1 _ _ _ (Ne.symm hbs) c1'; clear hS1 hK1)
            clear hc1
            have hc2 := AIH.out (rot d s m e) (by simp [hs]) _ BS1.out a s mid (by omega) (by omega) (by omega) (by omega)
            rw [AMI.out] at hc2
            go_wp2_with (go_at_fn (ρ.f 30); refine hc2.mono ?_; rintro _ w2 ⟨rfl, hS2, hK2⟩; have BS2 : Hid (SWK enc k w0 blk off (sm lt f (rot d s m e) a s mid) w2) := hS2; have BK2 : Hid (Keep blk W w2) := BK1.out.trans hK2; have k2 := hK2 _ _ _ (Ne.symm hbs) k1; have l2 := hK2 _ _ _ (Ne.symm hbs) l1; clear hS2 hK2)
            clear hc2
            have hc3 := AIH.out (sm lt f (rot d s m e) a s mid) (by simp [hs]) _ BS2.out mid e b (by omega) (by omega) (by omega) (by omega)
            rw [AMI.out, AEI.out] at hc3
            go_wp2_with (go_at_fn (ρ.f 30); refine hc3.mono ?_; rintro _ w3 ⟨rfl, hS3, hK3⟩; have BS3 : Hid (SWK enc k w0 blk off (sm lt f (sm lt f (rot d s m e) a s mid) mid e b) w3) := hS3; have BK3 : Hid (Keep blk W w3) := BK2.out.trans hK3; have k3 := hK3 _ _ _ (Ne.symm hbs) k2; have l3 := hK3 _ _ _ (Ne.symm hbs) l2; clear hS3 hK3)
            clear hc3
            go_end0
            exact ⟨rfl, by rw [AX.out]; exact BS3.out, BK3.out⟩
          · exfalso; omega
        · by_cases he2 : e < b
          ·
            have u1 : (s : Int) < m := by omega
            have u2 : (m : Int) < ((a : Int) + b) / 2 + m - s := by omega
            have u3 : ¬ ((a : Int) < s) := by omega
            have u5 : ((a : Int) + b) / 2 < ((a : Int) + b) / 2 + m - s := by omega
            have u6 : ((a : Int) + b) / 2 + m - s < b := by omega
            have AX : Hid (sm lt (f + 1) d a m b = (sm lt f (rot d s m e) mid e b)) := by unfold Hid; rw [AE.out, if_pos (show s < m ∧ m < e by omega), if_neg (show ¬ (a < s ∧ s < mid) by omega), if_pos (show mid < e ∧ e < b by omega)]
            clear AE
            have hc1 := rotate_cells LR D d hs _ ASW.out s m e (by omega) (by omega) (by omega)
            rw [AEI.out] at hc1
            go_wp2_with (go_at_fn (ρ.f 42); refine hc1.mono ?_; rintro _ w1 ⟨rfl, hS1, hK1⟩; have BS1 : Hid (SWK enc k w0 blk off (rot d s m e) w1) := hS1; have BK1 : Hid (Keep blk W w1) := AK.out.trans hK1; have k1 := hK1 _ _ _ (Ne.symm hbs) c0; have l1 := hK1 _ _ _ (Ne.symm hbs) c1'; clear hS1 hK1)
            clear hc1
            have hc2 := AIH.out (rot d s m e) (by simp [hs]) _ BS1.out mid e b (by omega) (by omega) (by omega) (by omega)
            rw [AMI.out, AEI.out] at hc2
            go_wp2_with (go_at_fn (ρ.f 30); refine hc2.mono ?_; rintro _ w2 ⟨rfl, hS2, hK2⟩; have BS2 : Hid (SWK enc k w0 blk off (sm lt f (rot d s m e) mid e b) w2) := hS2; have BK2 : Hid (Keep blk W w2) := BK1.out.trans hK2; have k2 := hK2 _ _ _ (Ne.symm hbs) k1; have l2 := hK2 _ _ _ (Ne.symm hbs) l1; clear hS2 hK2)
            clear hc2
            go_end0
            exact ⟨rfl, by rw [AX.out]; exact BS2.out, BK2.out⟩
          ·
            have u1 : (s : Int) < m := by omega
            have u2 : (m : Int) < ((a : Int) + b) / 2 + m - s := by omega
            have u3 : ¬ ((a : Int) < s) := by omega
            have u5 : ((a : Int) + b) / 2 < ((a : Int) + b) / 2 + m - s := by omega
            have u6 : ¬ (((a : Int) + b) / 2 + m - s < b) := by omega
            have AX : Hid (sm lt (f + 1) d a m b = (rot d s m e)) := by unfold Hid; rw [AE.out, if_pos (show s < m ∧ m < e by omega), if_neg (show ¬ (a < s ∧ s < mid) by omega), if_neg (show ¬ (mid < e ∧ e < b) by omega)]
            clear AE
            have hc1 := rotate_cells LR D d hs _ ASW.out s m e (by omega) (by omega) (by omega)
            rw [AEI.out] at hc1
            go_wp2_with (go_at_fn (ρ.f 42); refine hc1.mono ?_; rintro _ w1 ⟨rfl, hS1, hK1⟩; have BS1 : Hid (SWK enc k w0 blk off (rot d s m e) w1) := hS1; have BK1 : Hid (Keep blk W w1) := AK.out.trans hK1; have k1 := hK1 _ _ _ (Ne.symm hbs) c0; have l1 := hK1 _ _ _ (Ne.symm hbs) c1'; clear hS1 hK1)
            clear hc1
            go_end0
            exact ⟨rfl, by rw [AX.out]; exact BS1.out, BK1.out⟩
      · by_cases ha : m < mid
        ·
          have u1 : ¬ ((s : Int) < m) := by omega
          have u3 : (a : Int) < s := by omega
          have u4 : (s : Int) < ((a : Int) + b) / 2 := by omega
          have u5 : ¬ (((a : Int) + b) / 2 < ((a : Int) + b) / 2 + m - s) := by omega
          have AX : Hid (sm lt (f + 1) d a m b = (sm lt f d a s mid)) := by unfold Hid; rw [AE.out, if_neg (show ¬ (s < m ∧ m < e) by omega), if_pos (show a < s ∧ s < mid by omega), if_neg (show ¬ (mid < e ∧ e < b) by omega)]
          clear AE
          have hc1 := AIH.out d hs _ ASW.out a s mid (by omega) (by omega) (by omega) (by omega)
          rw [AMI.out] at hc1
          go_wp2_with (go_at_fn (ρ.f 30); refine hc1.mono ?_; rintro _ w1 ⟨rfl, hS1, hK1⟩; have BS1 : Hid (SWK enc k w0 blk off (sm lt f d a s mid) w1) := hS1; have BK1 : Hid (Keep blk W w1) := AK.out.trans hK1; have k1 := hK1 _ _ _ (Ne.symm hbs) c0; have l1 := hK1 _ _ _ (Ne.symm hbs) c1'; clear hS1 hK1)
          clear hc1
          go_end0
          exact ⟨rfl, by rw [AX.out]; exact BS1.out, BK1.out⟩
        ·
          have u1 : ¬ ((s : Int) < m) := by omega
          have u3 : (a : Int) < s := by omega
          have u4 : ¬ ((s : Int) < ((a : Int) + b) / 2) := by omega
          have u5 : ¬ (((a : Int) + b) / 2 < ((a : Int) + b) / 2 + m - s) := by omega
          have AX : Hid (sm lt (f + 1) d a m b = d) := by unfold Hid; rw [AE.out, if_neg (show ¬ (s < m ∧ m < e) by omega), if_neg (show ¬ (a < s ∧ s < mid) by omega), if_neg (show ¬ (mid < e ∧ e < b) by omega)]
          clear AE
          go_wp2
          go_end0
          exact ⟨rfl, by rw [AX.out]; exact ASW.out, AK.out⟩
theorem symMerge_cells (L : LaysGt.n30 P ρ) {enc : α → List Value} {k : Nat} {lt : α → α → Bool} {g : Nat} {lb : Array Value} {sf : Nat} {sb : Array Value} {blk off size : Nat} {w0 : World} (D : Data P enc k lt g lb sf sb blk off size w0) : ∀ (f : Nat)
    (d : Array α) (_ : d.size = size) (W : World) (_ : SWK enc k w0 blk off d W) (a m b : Nat) (_ : b - a ≤ f) (_ : a < m) (_ : m < b) (_ : b ≤ size),
    Calls P (ρ.f 30) #[.agg #[.func (.func g) #[] lb, .func (.func sf) #[] sb], .int .i64 a, .int .i64 m, .int .i64 b] W fun e w' => e = .returned (.tuple #[]) ∧ SWK enc k w0 blk off (sm lt f d a m b) w' ∧ Keep blk W w'
  | 0, _, _, _, _, _, _, _, hf, _, _, _ => by omega
  | f + 1, d, hs, W, hW, a, m, b, hf, h1, h2, h3 => by
    by_cases c1 : m - a = 1
    · exact symMerge_1 L D f d hs W hW a m b hf h1 h2 h3 c1
    · by_cases c2 : b - m = 1
      · exact symMerge_2 L D f d hs W hW a m b hf h1 h2 h3 c1 c2
      · by_cases hmm : (a + b) / 2 < m
        · exact symMerge_3 L D f (symMerge_cells L D f) d hs W hW a m b hf h1 h2 h3 c1 c2 _ rfl hmm
        · exact symMerge_4 L D f (symMerge_cells L D f) d hs W hW a m b hf h1 h2 h3 c1 c2 _ rfl hmm

theorem SWK.lessReads {enc : α → List Value} {k : Nat} {w0 W : World} {blk off : Nat} {dk : Array α} {g : Nat} {lb : Array Value} {lt : α → α → Bool} {size : Nat} (h : SWK enc k w0 blk off dk W) (hL : LessReadsK P g lb enc k lt blk off size w0) (hblk : blk < w0.heap.size) (hs : dk.size = size) :
    LessReadsK P g lb enc k lt blk off size W := fun m os dk' hs' i j hi hj => (h.on hblk m dk' os (hs'.trans hs.symm)).less hL hs' i j hi hj
theorem size_insInner (lt : α → α → Bool) (a : Nat) : ∀ (j : Nat) (d : Array α), (insInner lt a j d).size = d.size
  | 0, d => by rw [insInner]
  | j + 1, d => by
    rw [insInner]
    split
    · rw [size_insInner lt a j, size_swp]
    · rfl
theorem size_insOuter (lt : α → α → Bool) (a b : Nat) : ∀ (n i : Nat) (d : Array α), b - i ≤ n → (insOuter lt a b i d).size = d.size
  | n, i, d, h => by
    rw [insOuter]
    split
    · cases n with
      | zero => omega
      | succ n => rw [size_insOuter lt a b n _ _ (by omega), size_insInner]
    · rfl
@[simp] theorem size_ins (lt : α → α → Bool) (d : Array α) (a b : Nat) : (insertionSort lt d a b).size = d.size := size_insOuter lt a b _ _ d (Nat.le_refl _)
theorem ins_cells (L : LaysGt.n29 P ρ) {enc : α → List Value} {k : Nat} {lt : α → α → Bool} {g : Nat} {lb : Array Value} {sf : Nat} {sb : Array Value} {blk off size : Nat} {w0 : World} (D : Data P enc k lt g lb sf sb blk off size w0)
    (d : Array α) (hs : d.size = size) (W : World) (hW : SWK enc k w0 blk off d W) (a b : Nat) (h1 : a ≤ b) (h2 : b ≤ size) :
    Calls P (ρ.f 29) #[.agg #[.func (.func g) #[] lb, .func (.func sf) #[] sb], .int .i64 a, .int .i64 b] W fun e w' => e = .returned (.tuple #[]) ∧ SWK enc k w0 blk off (insertionSort lt d a b) w' ∧ Keep blk W w' := by
  obtain ⟨d0, h0, hs0⟩ := D.holds
  have hsz := D.hsz
  have hbW : blk < W.heap.size := Nat.lt_of_lt_of_le D.hblk hW.le
  have hl : LessReadsK P g lb enc k lt blk off d.size W := by rw [hs]; exact hW.lessReads D.less D.hblk hs
  have hw : SwapSwapsK P sf sb enc k blk off d.size := by rw [hs]; exact D.swap
  refine (Any.insertionSort_func_cells (ρ := ρ.viaGt) L.elder enc k D.hk lt g lb sf sb blk off a b d W D.eg hl hw (hW.holds D.hblk h0 (hs.trans hs0.symm)) hbW h1 (by omega) (by omega)).mono ?_
  rintro e w' ⟨rfl, n, rfl⟩
  refine ⟨rfl, ?_, fun b o v hb hc => ?_⟩
  · have := (hW.alloc (.cells #[.func (.func g) #[] lb, .func (.func sf) #[] sb] (ρ.viaGt.t 44))).on D.hblk n (insertionSort lt d a b) #[] (by simp [size_ins])
    unfold sortWorldK at this
    rw [grow_empty] at this
    exact this
  · rw [cell?_putRowK_other enc k _ blk off _ _ hb]
    exact Keep.alloc blk W _ b o v hb hc
theorem stBlocks_go {lt : α → α → Bool} {n a : Nat} {d : Array α} (h : a + 20 ≤ n) : stBlocks lt n (a + 20) (insertionSort lt d a (a + 20)) = stBlocks lt n a d := by
  conv => rhs; rw [stBlocks, if_pos h]
theorem stBlocks_end {lt : α → α → Bool} {n a : Nat} {d : Array α} (h : ¬ a + 20 ≤ n) : insertionSort lt d a n = stBlocks lt n a d := by
  conv => rhs; rw [stBlocks, if_neg h]
theorem stPass_go {lt : α → α → Bool} {n s a : Nat} {d : Array α} (h0 : 0 < s) (h : a + 2 * s ≤ n) : stPass lt n s (a + 2 * s) (sm lt (2 * s) d a (a + s) (a + 2 * s)) = stPass lt n s a d := by
  conv => rhs; rw [stPass, if_pos ⟨h0, h⟩]
theorem stPass_last {lt : α → α → Bool} {n s a : Nat} {d : Array α} (h : ¬ a + 2 * s ≤ n) (h2 : a + s < n) : sm lt (n - a) d a (a + s) n = stPass lt n s a d := by
  conv => rhs; rw [stPass, if_neg (fun x => h x.2), if_pos h2]
theorem stPass_end {lt : α → α → Bool} {n s a : Nat} {d : Array α} (h : ¬ a + 2 * s ≤ n) (h2 : ¬ a + s < n) : d = stPass lt n s a d := by
  conv => rhs; rw [stPass, if_neg (fun x => h x.2), if_neg h2]
theorem stOuter_go {lt : α → α → Bool} {n s : Nat} {d : Array α} (h0 : 0 < s) (h : s < n) : stOuter lt n (2 * s) (stPass lt n s 0 d) = stOuter lt n s d := by
  conv => rhs; rw [stOuter, if_pos ⟨h0, h⟩]
theorem stOuter_end {lt : α → α → Bool} {n s : Nat} {d : Array α} (h : ¬ s < n) : d = stOuter lt n s d := by
  conv => rhs; rw [stOuter, if_neg (fun x => h x.2)]

set_option maxHeartbeats 4000000 in
set_option maxRecDepth 100000 in
theorem stable_cells (L : LaysGt.n15 P ρ) {enc : α → List Value} {k : Nat} {lt : α → α → Bool} {g : Nat} {lb : Array Value} {sf : Nat} {sb : Array Value} {blk off size : Nat} {w0 : World} (D : Data P enc k lt g lb sf sb blk off size w0)
    (d : Array α) (hs : d.size = size) (W : World) (hW : SWK enc k w0 blk off d W) :
    Calls P (ρ.f 15) #[.agg #[.func (.func g) #[] lb, .func (.func sf) #[] sb], .int .i64 size] W fun e w' => e = .returned (.tuple #[]) ∧ SWK enc k w0 blk off (stable lt d size) w' := by
  have mixed := L.mixed; have t0 := L.t0; have a0 := L.a0; have z0 := L.z0; have v0 := L.v0; have t3 := L.t3; have a3 := L.a3; have z3 := L.z3; have v3 := L.v3; have t4 := L.t4; have a4 := L.a4; have z4 := L.z4; have v4 := L.v4; have t26 := L.t26; have a26 := L.a26; have z26 := L.z26; have v26 := L.v26; have t38 := L.t38; have a38 := L.a38; have z38 := L.z38; have v38 := L.v38; have t42 := L.t42; have a42 := L.a42; have z42 := L.z42; have v42 := L.v42; have t47 := L.t47; have a47 := L.a47; have z47 := L.z47; have v47 := L.v47
  have u42 := run_underlying L.t42
  have hbs : blk ≠ W.heap.size := by have := hW.le; have := D.hblk; omega
  have hsz := D.hsz
  have e29 : ∀ args w, (callFunc (ρ.f 29) args).run P w = .ok (.enter (ρ.f 29) args) w := enters_of L.f29 (by kernel_rfl) rfl
  have e30 : ∀ args w, (callFunc (ρ.f 30) args).run P w = .ok (.enter (ρ.f 30) args) w := enters_of L.f30 (by kernel_rfl) rfl
  have LI : LaysGt.n29 P ρ := { L with }
  have LS : LaysGt.n30 P ρ := { L with }
  go_enter L.f15, BodyGt.n15_ntmps ρ
  go_wp2
  go_loopw [5, 6] (fun va vb wr => ∃ (a : Nat) (dk : Array α), va = .int .i64 a ∧ vb = .int .i64 ((a + 20 : Nat) : Int) ∧ a ≤ size ∧ dk.size = size ∧ stBlocks lt size a dk = stBlocks lt size 0 d ∧ SWK enc k w0 blk off dk wr ∧
    wr.cell? ⟨W.heap.size, 0, none⟩ = some (.func (.func g) #[] lb) ∧ wr.cell? ⟨W.heap.size, 1, none⟩ = some (.func (.func sf) #[] sb) ∧ Keep blk W wr) (fun va _ _ => size - (intOf va).toNat)
  case atStart => exact ⟨0, d, by go_num, by go_num, by omega, hs, rfl, hW.alloc _, by simp, by simp, Keep.alloc _ _ _⟩
  case round =>
    obtain ⟨a, dk, rfl, rfl, ha, hsk, he, hS, c0, c1, hK⟩ := hrel
    have AE : Hid (stBlocks lt size a dk = stBlocks lt size 0 d) := he
    have AK : Hid (Keep blk W wr) := hK
    have ASW : Hid (SWK enc k w0 blk off dk wr) := hS
    clear he hK hS
    by_cases hle : a + 20 ≤ size
    · have hc := ins_cells LI D dk hsk wr ASW.out a (a + 20) (by omega) hle
      have AE2 : Hid (stBlocks lt size (a + 20) (insertionSort lt dk a (a + 20)) = stBlocks lt size 0 d) := (stBlocks_go hle).trans AE.out
      clear AE
      go_wp2_with (go_at_fn (ρ.f 29); refine hc.mono ?_; rintro e w' ⟨rfl, hS', hK'⟩)
      have c0' := hK' _ _ _ (Ne.symm hbs) c0
      have c1' := hK' _ _ _ (Ne.symm hbs) c1
      go_roundw
      case rel => exact ⟨a + 20, _, by go_num, by go_num, hle, by simp [size_ins, hsk], AE2.out, hS', c0', c1', AK.out.trans hK'⟩
      case measure => simp [intOf]; omega
    · have hc := ins_cells LI D dk hsk wr ASW.out a size ha (Nat.le_refl _)
      have AE2 : Hid (stOuter lt size 20 (insertionSort lt dk a size) = stable lt d size) := by unfold Hid stable; rw [stBlocks_end hle, AE.out]
      have hsk2 : (insertionSort lt dk a size).size = size := by simp [size_ins, hsk]
      clear AE
      go_wp2_with (go_at_fn (ρ.f 29); refine hc.mono ?_; rintro e w' ⟨rfl, hS', hK'⟩)
      have c0' := hK' _ _ _ (Ne.symm hbs) c0
      have c1' := hK' _ _ _ (Ne.symm hbs) c1
      have BK : Hid (Keep blk W w') := AK.out.trans hK'
      have BS : Hid (SWK enc k w0 blk off (insertionSort lt dk a size) w') := hS'
      clear hc hS' hK' c0 c1 ASW AK
      generalize insertionSort lt dk a size = d1 at *
      go_loopw [4] (fun vs wr => ∃ (s : Nat) (dk : Array α), vs = .int .i64 s ∧ 0 < s ∧ s ≤ 2 * size + 20 ∧ dk.size = size ∧ stOuter lt size s dk = stable lt d size ∧ SWK enc k w0 blk off dk wr ∧
        wr.cell? ⟨W.heap.size, 0, none⟩ = some (.func (.func g) #[] lb) ∧ wr.cell? ⟨W.heap.size, 1, none⟩ = some (.func (.func sf) #[] sb) ∧ Keep blk W wr) (fun vs _ => size - (intOf vs).toNat)
      case atStart => exact ⟨20, d1, by go_num, by omega, by omega, hsk2, AE2.out, BS.out, c0', c1', BK.out⟩
      case round =>
        clear c0' c1' BK BS AE2 hsk2
        obtain ⟨s, dk, rfl, hs0, hsb, hsk, he, hS, c0, c1, hK⟩ := hrel
        have AE : Hid (stOuter lt size s dk = stable lt d size) := he
        have AK : Hid (Keep blk W wr) := hK
        have ASW : Hid (SWK enc k w0 blk off dk wr) := hS
        clear he hK hS
        by_cases hlt : s < size
        · have AE2 : Hid (stOuter lt size (2 * s) (stPass lt size s 0 dk) = stable lt d size) := (stOuter_go hs0 hlt).trans AE.out
          clear AE
          go_wp2
          go_loopw [5, 6] (fun va vb wr => ∃ (a : Nat) (d2 : Array α), va = .int .i64 a ∧ vb = .int .i64 ((a + 2 * s : Nat) : Int) ∧ a ≤ size ∧ d2.size = size ∧ stPass lt size s a d2 = stPass lt size s 0 dk ∧ SWK enc k w0 blk off d2 wr ∧
            wr.cell? ⟨W.heap.size, 0, none⟩ = some (.func (.func g) #[] lb) ∧ wr.cell? ⟨W.heap.size, 1, none⟩ = some (.func (.func sf) #[] sb) ∧ Keep blk W wr) (fun va _ _ => size - (intOf va).toNat)
          case atStart => exact ⟨0, dk, by go_num, by go_num, by omega, hsk, rfl, ASW.out, c0, c1, AK.out⟩
          case round =>
            clear c0 c1 AK ASW
            obtain ⟨a, d2, rfl, rfl, ha, hsk2, he, hS, c0, c1, hK⟩ := hrel
            have AP : Hid (stPass lt size s a d2 = stPass lt size s 0 dk) := he
            have AK : Hid (Keep blk W wr) := hK
            have ASW : Hid (SWK enc k w0 blk off d2 wr) := hS
            clear he hK hS
            by_cases hle : a + 2 * s ≤ size
            · have hc := symMerge_cells LS D (2 * s) d2 hsk2 wr ASW.out a (a + s) (a + 2 * s) (by omega) (by omega) (by omega) hle
              rw [show ((a + s : Nat) : Int) = (a : Int) + s by omega] at hc
              have AP2 : Hid (stPass lt size s (a + 2 * s) (sm lt (2 * s) d2 a (a + s) (a + 2 * s)) = stPass lt size s 0 dk) := (stPass_go hs0 hle).trans AP.out
              clear AP
              go_wp2_with (go_at_fn (ρ.f 30); refine hc.mono ?_; rintro e w' ⟨rfl, hS', hK'⟩)
              have c0' := hK' _ _ _ (Ne.symm hbs) c0
              have c1' := hK' _ _ _ (Ne.symm hbs) c1
              go_roundw
              case rel => exact ⟨a + 2 * s, _, by go_num, by go_num, hle, by simp [hsk2], AP2.out, hS', c0', c1', AK.out.trans hK'⟩
              case measure => simp [intOf]; omega
            · by_cases hm : a + s < size
              · have hc := symMerge_cells LS D (size - a) d2 hsk2 wr ASW.out a (a + s) size (by omega) (by omega) hm (Nat.le_refl _)
                rw [show ((a + s : Nat) : Int) = (a : Int) + s by omega] at hc
                have hmi : (a : Int) + s < size := by omega
                have AP2 : Hid (stOuter lt size (2 * s) (sm lt (size - a) d2 a (a + s) size) = stable lt d size) := by unfold Hid; rw [stPass_last hle hm, AP.out]; exact AE2.out
                clear AP
                go_wp2_with (go_at_fn (ρ.f 30); refine hc.mono ?_; rintro e w' ⟨rfl, hS', hK'⟩)
                have c0' := hK' _ _ _ (Ne.symm hbs) c0
                have c1' := hK' _ _ _ (Ne.symm hbs) c1
                go_roundw
                case rel => exact ⟨2 * s, _, by go_num, by omega, by omega, by simp [hsk2], AP2.out, hS', c0', c1', AK.out.trans hK'⟩
                case measure => simp [intOf]; omega
              · have hmi : ¬ (a : Int) + s < size := by omega
                have AP2 : Hid (stOuter lt size (2 * s) d2 = stable lt d size) := (congrArg (stOuter lt size (2 * s)) ((stPass_end hle hm).trans AP.out)).trans AE2.out
                clear AP
                go_wp2
                go_roundw
                case rel => exact ⟨2 * s, d2, by go_num, by omega, by omega, hsk2, AP2.out, ASW.out, c0, c1, AK.out⟩
                case measure => simp [intOf]; omega
        · have AE2 : Hid (dk = stable lt d size) := (stOuter_end hlt).trans AE.out
          clear AE
          go_wp2
          go_end0
          exact ⟨rfl, AE2.out ▸ ASW.out⟩

theorem sliceStable_cells (L : LaysGt.n8 P ρ) (t e : TypeId) (i ie : TypeInfo) (hi : P.info? t = some i) (hd : i.desc = .slice e) (hpk : P.packed t = false) (hie : P.info? e = some ie) (ke : Nat) (hke : ∀ w, (Extern.Rtype.kind e).run P w = .ok ke w)
    (enc : α → List Value) (k : Nat) (hk : ∀ x, (enc x).length = k) (hs1 : ie.size = k) (hagg : ∀ w, (isAgg e).run P w = .ok true w) (h1 : ∀ x, ∀ v ∈ enc x, v.oneCell' = true) (lt : α → α → Bool) (g : Nat) (lb : Array Value)
    (eg : ∀ args w, (callFunc g args).run P w = .ok (.enter g args) w) (blk off c : Nat) (d : Array α) (h2 : 2 ≤ d.size) (hsz : d.size < 1152921504606846976)
    (f : Nat) (hf : P.funcs.findIdx? (·.name == "internal/reflectlite" ++ ".Swapper$" ++ toString (swapperK d.size ie ke)) = some f)
    (gS : Bool) (hx : ∀ args W, (callFunc f args).run P W = ((Extern.ReflectliteSwapper.swap gS args).run P W).andThen fun v w' => .ok (.value v) w')
    (w : World) (hless : LessReadsK P g lb enc k lt blk off d.size w) (hH : HoldsK enc k w blk off d) (hblk : blk < w.heap.size) :
    Calls P (ρ.f 8) #[.iface t (.slice (some ⟨blk, off, none⟩) d.size c), .func (.func g) #[] lb] w fun e w' => e = .returned (.tuple #[]) ∧ SWK enc k w blk off (stable lt d d.size) w' := by
  refine Any.sort_SliceStable_of_stable L t e i ie hi hd hpk hie ke hke _ d.size c (by omega) f hf (.func g) #[] lb w _ ?_
  have hB : sliceBound P e ie ke (some ⟨blk, off, none⟩) d.size c = #[.slice (some ⟨blk, off, none⟩) d.size c, typeHandle P e] := by
    unfold sliceBound; rw [if_neg (swapperK_gt _ _ _ h2)]
  rw [hB]
  have D : Data P enc k lt g lb f #[.slice (some ⟨blk, off, none⟩) d.size c, typeHandle P e] blk off d.size w :=
    ⟨hk, eg, hless, swapSwapsK_of_literal gS f hx e ie hie enc k hk hs1 hagg h1 blk off d.size c, ⟨d, hH, rfl⟩, hblk, hsz⟩
  exact stable_cells { L with } D d rfl _ (((SWK.start hH).alloc _).alloc _)
end Go.Proofs.Yticgekgojgkbgaa.Stable
end
section
namespace Go.Proofs
open Go.Shelf
def Try.laysGg26_ren : Go.Shelf.Ren := ⟨fun | 26 => 146 | n => n, fun | 44 => 146 | 3 => 3 | 0 => 0 | 4 => 4 | 26 => 130 | 37 => 142 | n => n, fun | n => n⟩
theorem Try.laysGg26 : Go.Proofs.LaysGg.n26 Try.prog Try.laysGg26_ren := {
  mixed := by kernel_rfl
  f26 := Try.func146.trans (congrArg some (by kernel_rfl))
  t0 := Try.underlying0
  a0 := Try.isAgg0
  z0 := Try.sizeOf0
  v0 := Try.zeroValue0
  i0 := by kernel_rfl
  t3 := Try.underlying3
  a3 := Try.isAgg3
  z3 := Try.sizeOf3
  v3 := Try.zeroValue3
  i3 := by kernel_rfl
  t4 := Try.underlying4
  a4 := Try.isAgg4
  z4 := Try.sizeOf4
  v4 := Try.zeroValue4
  i4 := by kernel_rfl
  t26 := Try.underlying130
  a26 := Try.isAgg130
  z26 := Try.sizeOf130
  v26 := Try.zeroValue130
  i26 := by kernel_rfl
  t37 := Try.underlying142
  a37 := Try.isAgg142
  z37 := Try.sizeOf142
  v37 := Try.zeroValue142
  i37 := by kernel_rfl
  t44 := Try.underlying146
  a44 := Try.isAgg146
  z44 := Try.sizeOf146
  v44 := Try.zeroValue146
  i44 := by kernel_rfl }
open Go.RowKit Go.Lib Go.Sort in
theorem Try.insertionSort_func_cells {α : Type} [Inhabited α] (enc : α → List Value) (k : Nat) (hk : ∀ x, (enc x).length = k) (lt : α → α → Bool) (g : Nat) (lb : Array Value) (sf : Nat) (sb : Array Value) (blk off a b : Nat) (d : Array α) (w : World) (eg : ∀ args w, (callFunc g args).run Try.prog w = .ok (.enter g args) w) (hless : LessReadsK Try.prog g lb enc k lt blk off d.size w) (hswap : SwapSwapsK Try.prog sf sb enc k blk off d.size) (hH : HoldsK enc k w blk off d) (hblk : blk < w.heap.size) (hab : a ≤ b) (hb : b ≤ d.size) (hsz : d.size < 4611686018427387904) :
    Calls Try.prog 146 #[.agg #[.func (.func g) #[] lb, .func (.func sf) #[] sb], .int .i64 a, .int .i64 b] w fun e w' =>
      e = .returned (.tuple #[]) ∧ ∃ n, w' = putRowK enc k (Sort.ahead (w.alloc (.cells #[.func (.func g) #[] lb, .func (.func sf) #[] sb] 146)) n) blk off (Sort.insertionSort lt d a b) := Any.insertionSort_func_cells Try.laysGg26 enc k hk lt g lb sf sb blk off a b d w eg hless hswap hH hblk hab hb hsz
def Try.laysGt8_ren : Go.Shelf.Ren := ⟨fun | 8 => 115 | 13 => 128 | 14 => 129 | 16 => 131 | 15 => 130 | 29 => 146 | 30 => 147 | 42 => 152 | 49 => 155 | n => n, fun | 20 => 20 | 26 => 130 | 36 => 140 | 0 => 0 | 38 => 142 | 42 => 146 | 3 => 3 | 4 => 4 | 47 => 116 | 17 => 17 | 33 => 137 | 34 => 138 | 89 => 177 | 12 => 12 | 56 => 132 | 82 => 171 | 5 => 5 | 83 => 172 | 84 => 173 | 85 => 163 | 86 => 174 | 87 => 175 | n => n, fun | n => n⟩
theorem Try.laysGt8 : Go.Proofs.LaysGt.n8 Try.prog Try.laysGt8_ren := {
  mixed := by kernel_rfl
  f8 := Try.func115.trans (congrArg some (by kernel_rfl))
  f13 := Try.func128.trans (congrArg some (by kernel_rfl))
  f14 := Try.func129.trans (congrArg some (by kernel_rfl))
  f15 := Try.func130.trans (congrArg some (by kernel_rfl))
  f16 := Try.func131.trans (congrArg some (by kernel_rfl))
  f29 := Try.func146.trans (congrArg some (by kernel_rfl))
  f30 := Try.func147.trans (congrArg some (by kernel_rfl))
  f42 := Try.func152.trans (congrArg some (by kernel_rfl))
  f49 := Try.func155.trans (congrArg some (by kernel_rfl))
  t0 := Try.underlying0
  a0 := Try.isAgg0
  z0 := Try.sizeOf0
  v0 := Try.zeroValue0
  i0 := by kernel_rfl
  t3 := Try.underlying3
  a3 := Try.isAgg3
  z3 := Try.sizeOf3
  v3 := Try.zeroValue3
  i3 := by kernel_rfl
  t4 := Try.underlying4
  a4 := Try.isAgg4
  z4 := Try.sizeOf4
  v4 := Try.zeroValue4
  i4 := by kernel_rfl
  t5 := Try.underlying5
  a5 := Try.isAgg5
  z5 := Try.sizeOf5
  v5 := Try.zeroValue5
  i5 := by kernel_rfl
  t12 := Try.underlying12
  a12 := Try.isAgg12
  z12 := Try.sizeOf12
  v12 := Try.zeroValue12
  i12 := by kernel_rfl
  t17 := Try.underlying17
  a17 := Try.isAgg17
  z17 := Try.sizeOf17
  v17 := Try.zeroValue17
  i17 := by kernel_rfl
  t20 := Try.underlying20
  a20 := Try.isAgg20
  z20 := Try.sizeOf20
  v20 := Try.zeroValue20
  i20 := by kernel_rfl
  t26 := Try.underlying130
  a26 := Try.isAgg130
  z26 := Try.sizeOf130
  v26 := Try.zeroValue130
  i26 := by kernel_rfl
  t33 := Try.underlying137
  a33 := Try.isAgg137
  z33 := Try.sizeOf137
  v33 := Try.zeroValue137
  i33 := by kernel_rfl
  t34 := Try.underlying138
  a34 := Try.isAgg138
  z34 := Try.sizeOf138
  v34 := Try.zeroValue138
  i34 := by kernel_rfl
  t36 := Try.underlying140
  a36 := Try.isAgg140
  z36 := Try.sizeOf140
  v36 := Try.zeroValue140
  i36 := by kernel_rfl
  t38 := Try.underlying142
  a38 := Try.isAgg142
  z38 := Try.sizeOf142
  v38 := Try.zeroValue142
  i38 := by kernel_rfl
  t42 := Try.underlying146
  a42 := Try.isAgg146
  z42 := Try.sizeOf146
  v42 := Try.zeroValue146
  i42 := by kernel_rfl
  t47 := Try.underlying116
  a47 := Try.isAgg116
  z47 := Try.sizeOf116
  v47 := Try.zeroValue116
  i47 := by kernel_rfl
  t56 := Try.underlying132
  a56 := Try.isAgg132
  z56 := Try.sizeOf132
  v56 := Try.zeroValue132
  i56 := by kernel_rfl
  t82 := Try.underlying171
  a82 := Try.isAgg171
  z82 := Try.sizeOf171
  v82 := Try.zeroValue171
  i82 := by kernel_rfl
  t83 := Try.underlying172
  a83 := Try.isAgg172
  z83 := Try.sizeOf172
  v83 := Try.zeroValue172
  i83 := by kernel_rfl
  t84 := Try.underlying173
  a84 := Try.isAgg173
  z84 := Try.sizeOf173
  v84 := Try.zeroValue173
  i84 := by kernel_rfl
  t85 := Try.underlying163
  a85 := Try.isAgg163
  z85 := Try.sizeOf163
  v85 := Try.zeroValue163
  i85 := by kernel_rfl
  t86 := Try.underlying174
  a86 := Try.isAgg174
  z86 := Try.sizeOf174
  v86 := Try.zeroValue174
  i86 := by kernel_rfl
  t87 := Try.underlying175
  a87 := Try.isAgg175
  z87 := Try.sizeOf175
  v87 := Try.zeroValue175
  i87 := by kernel_rfl
  t89 := Try.underlying177
  a89 := Try.isAgg177
  z89 := Try.sizeOf177
  v89 := Try.zeroValue177
  i89 := by kernel_rfl }
end Go.Proofs
end
section
namespace Go.Proofs.Yticgekgojgkbgaa.Print
open Go.RowKit Go.Proofs.YticgekgojgkbgaaV.PrintWords Go.Proofs.YticgekgojgkbgaaV.PrintLast Go.Proofs.YticgekgojgkbgaaV.PrintMore
attribute [local go_sem] max2_int min2_int max_two min_two max_three min_three max_four min_four   -- for this text's walks alone
set_option linter.unusedVariables false
set_option linter.unusedSimpArgs false

/-! ### impl_SetLess: function 117 -/
mutual
def impl_SetLess.l0 : Nat → List (S88) → List (S88) → Int → Option (Bool)
 | 0, _, _, _ => none
 | k + 1, x0, x1, x5 => if x5 < (x0.length : Int) then (impl_SetLess.j1 k x0 x1 x5 (decide (x5 < (x1.length : Int)))) else (impl_SetLess.j1 k x0 x1 x5 false)
def impl_SetLess.j1 : Nat → List (S88) → List (S88) → Int → Bool → Option (Bool)
 | 0, _, _, _, _ => none
 | k + 1, x0, x1, x5, x15 => if x15 = true then (if 0 ≤ x5 then (if x5 < (x0.length : Int) then (if x5 < (x1.length : Int) then (if ((rd_T88 x0 x5).f0).toList = ((rd_T88 x1 x5).f0).toList then (if ((rd_T88 x0 x5).f1).toList = ((rd_T88 x1 x5).f1).toList then (impl_SetLess.l0 k x0 x1 (wrap64 (x5 + 1))) else (some (Op.bytesLess (((rd_T88 x0 x5).f1).toList) (((rd_T88 x1 x5).f1).toList)))) else (some (Op.bytesLess (((rd_T88 x0 x5).f0).toList) (((rd_T88 x1 x5).f0).toList)))) else (none)) else (none)) else (none)) else (some (decide ((x0.length : Int) < (x1.length : Int))))
end
def impl_SetLess.f (k : Nat) (l0 : List (S88)) (l1 : List (S88)) : Option (Bool) := impl_SetLess.l0 k l0 l1 0
theorem impl_SetLess.mono_l : ∀ k, (∀ y0 y1 y2, LeO (impl_SetLess.l0 k y0 y1 y2) (impl_SetLess.l0 (k + 1) y0 y1 y2)) ∧ (∀ y0 y1 y2 y3, LeO (impl_SetLess.j1 k y0 y1 y2 y3) (impl_SetLess.j1 (k + 1) y0 y1 y2 y3))
 | 0 => ⟨fun _ _ _ r h => by simp [impl_SetLess.l0] at h, fun _ _ _ _ r h => by simp [impl_SetLess.j1] at h⟩
 | k + 1 => by
  obtain ⟨ih0, ih1⟩ := impl_SetLess.mono_l k
  refine ⟨?_, ?_⟩
  ·
   intro y0 y1 y2
   unfold impl_SetLess.l0
   repeat' first
   | (with_reducible exact ih0 _ _ _)
   | (with_reducible exact ih1 _ _ _ _)
   | (with_reducible exact LeO.refl _)
   | (with_reducible exact LeO.none _)
   | (with_reducible refine LeO.ite ?_ ?_)
   | (with_reducible refine LeO.bind ?_ (fun _ => ?_))
   | exact ih0 _ _ _
   | exact ih1 _ _ _ _
   | exact LeO.none _
   | refine LeO.ite ?_ ?_
   | refine LeO.bind ?_ (fun _ => ?_)
  ·
   intro y0 y1 y2 y3
   unfold impl_SetLess.j1
   repeat' first
   | (with_reducible exact ih0 _ _ _)
   | (with_reducible exact ih1 _ _ _ _)
   | (with_reducible exact LeO.refl _)
   | (with_reducible exact LeO.none _)
   | (with_reducible refine LeO.ite ?_ ?_)
   | (with_reducible refine LeO.bind ?_ (fun _ => ?_))
   | exact ih0 _ _ _
   | exact ih1 _ _ _ _
   | exact LeO.none _
   | refine LeO.ite ?_ ?_
   | refine LeO.bind ?_ (fun _ => ?_)
theorem impl_SetLess.mono : ∀ a0 a1 k, LeO (impl_SetLess.f k a0 a1) (impl_SetLess.f (k + 1) a0 a1) := by
 intro a0 a1 k
 obtain ⟨ih0, ih1⟩ := impl_SetLess.mono_l k
 unfold impl_SetLess.f
 repeat' first
   | (with_reducible exact ih0 _ _ _)
   | (with_reducible exact ih1 _ _ _ _)
   | (with_reducible exact LeO.refl _)
   | (with_reducible exact LeO.none _)
   | (with_reducible refine LeO.ite ?_ ?_)
   | (with_reducible refine LeO.bind ?_ (fun _ => ?_))
   | exact ih0 _ _ _
   | exact ih1 _ _ _ _
   | exact LeO.none _
   | refine LeO.ite ?_ ?_
   | refine LeO.bind ?_ (fun _ => ?_)
set_option maxHeartbeats 8000000 in
set_option maxRecDepth 100000 in
theorem impl_SetLess.calls (k : Nat) (A0 : Option Addr) (c0 : Nat) (l0 : List (S88)) (A1 : Option Addr) (c1 : Nat) (l1 : List (S88)) (r : Bool) (w : World) (hr0 : Kd.C k88 w A0 l0.length l0) (hc0 : l0.length ≤ c0) (hr1 : Kd.C k88 w A1 l1.length l1) (hc1 : l1.length ≤ c1) (h : impl_SetLess.f k l0 l1 = some r) :
  Calls Try.prog 117 #[.slice A0 l0.length c0, .slice A1 l1.length c1] w fun e w' => e = .returned (.bool r) ∧ Drawn0 w w' := by
 have HR0 := Aside0.mk hr0
 have HC0 := Aside0.mk hc0
 clear hr0 hc0
 have HR1 := Aside0.mk hr1
 have HC1 := Aside0.mk hc1
 clear hr1 hc1
 have H : (impl_SetLess.l0 k l0 l1 0) = some r := h
 clear h
 have H' := Aside0.mk H
 clear H
 go_enter Try.func117, Try.ntmps117
 go_wp2
 repeat (go_quiet (fail); try go_wp2)
 go_loopg [5] k (fun kq v5 w' => ∃ (x5_1 : Int), v5 = .int .i64 x5_1 ∧ Aside0 (impl_SetLess.l0 kq l0 l1 x5_1 = some r) ∧ Aside0 (kq ≤ k) ∧ Drawn0 w w')
 case atStart => exact ⟨(0), (by first | rfl | (simp; done) | (simp [*]; done)), H', ⟨Nat.le_refl _⟩, by repeat (first | exact Drawn0.refl _ | apply Drawn0.step)⟩
 case round =>
  clear H'
  try clear c1
  try clear p2
  obtain ⟨x5_1, rfl, HA, HK1, ⟨m1, rfl⟩⟩ := hrel
  cases gk with
  | zero => exact absurd HA.out (by simp [impl_SetLess.l0])
  | succ k1 =>
   have H := HA.out
   clear HA
   simp only [impl_SetLess.l0] at H
   have HC3 := Aside0.mk H
   clear H
   go_upto_region 2 with (fail)
   repeat (go_quiet (fail); go_upto_region 2 with (fail))
   go_cut [15] (fun v15 wc => ∃ (kq : Nat) (x15_2 : Bool), v15 = .bool x15_2 ∧ Aside0 (impl_SetLess.j1 kq l0 l1 x5_1 x15_2 = some r) ∧ Aside0 (kq ≤ k1) ∧ Drawn0 w wc)
   case first =>
    have H := HC3.out
    clear HC3
    by_cases c4 : x5_1 < (l0.length : Int)
    ·
     rw [if_pos c4] at H
     have c4b0 : decide (x5_1 < (l0.length : Int)) = true := decide_eq_true c4
     clear c4
     (first | rw [c4b0] | (simp only [i64_w, i32_w]; rw [c4b0]) | skip)
     have H' := Aside0.mk H
     clear H
     go_wp2
     repeat (go_quiet (fail); try go_wp2)
     go_meet
     case rel => exact ⟨_, (decide (x5_1 < (l1.length : Int))), (by first | rfl | (simp; done) | (simp [*]; done)), H', ⟨by have := HK1.out; first | omega | exact Nat.le_refl _⟩, by repeat (first | exact Drawn0.refl _ | apply Drawn0.step)⟩
    ·
     rw [if_neg c4] at H
     have c4b0 : decide (x5_1 < (l0.length : Int)) = false := decide_eq_false c4
     clear c4
     (first | rw [c4b0] | (simp only [i64_w, i32_w]; rw [c4b0]) | skip)
     have H' := Aside0.mk H
     clear H
     go_wp2
     repeat (go_quiet (fail); try go_wp2)
     go_meet
     case rel => exact ⟨_, (false), (by first | rfl | (simp; done) | (simp [*]; done)), H', ⟨by have := HK1.out; first | omega | exact Nat.le_refl _⟩, by repeat (first | exact Drawn0.refl _ | apply Drawn0.step)⟩
   case rest =>
    clear HC3
    try clear c1
    try clear p2
    try clear c4
    try clear c4b0
    try clear p2
    obtain ⟨kq, x15_2, rfl, HA, HJ2, ⟨mc2, rfl⟩⟩ := hcut
    cases kq with
    | zero => exact absurd HA.out (by simp [impl_SetLess.j1])
    | succ kj2 =>
     have H := HA.out
     clear HA
     simp only [impl_SetLess.j1] at H
     by_cases c5 : x15_2 = true
     ·
      subst c5
      have H1 : (if 0 ≤ x5_1 then (if x5_1 < (l0.length : Int) then (if x5_1 < (l1.length : Int) then (if ((rd_T88 l0 x5_1).f0).toList = ((rd_T88 l1 x5_1).f0).toList then (if ((rd_T88 l0 x5_1).f1).toList = ((rd_T88 l1 x5_1).f1).toList then (impl_SetLess.l0 kj2 l0 l1 (wrap64 (x5_1 + 1))) else (some (Op.bytesLess (((rd_T88 l0 x5_1).f1).toList) (((rd_T88 l1 x5_1).f1).toList)))) else (some (Op.bytesLess (((rd_T88 l0 x5_1).f0).toList) (((rd_T88 l1 x5_1).f0).toList)))) else (none)) else (none)) else (none)) = some r := by rw [if_pos rfl] at H; exact H
      clear H
      have H := H1
      clear H1
      by_cases c6 : 0 ≤ x5_1
      ·
       rw [if_pos c6] at H
       have c6b0 : decide (0 ≤ x5_1) = true := decide_eq_true c6
       clear c6
       by_cases c7 : x5_1 < (l0.length : Int)
       ·
        rw [if_pos c7] at H
        have c7b0 : decide (x5_1 < (l0.length : Int)) = true := decide_eq_true c7
        clear c7
        by_cases c8 : x5_1 < (l1.length : Int)
        ·
         rw [if_pos c8] at H
         have c8b0 : decide (x5_1 < (l1.length : Int)) = true := decide_eq_true c8
         clear c8
         by_cases c9 : ((rd_T88 l0 x5_1).f0).toList = ((rd_T88 l1 x5_1).f0).toList
         ·
          rw [if_pos c9] at H
          have c9b0 : (((rd_T88 l0 x5_1).f0).toList == ((rd_T88 l1 x5_1).f0).toList) = true := beq_iff_eq.mpr c9
          have c9b1 : (((rd_T88 l0 x5_1).f0).toList != ((rd_T88 l1 x5_1).f0).toList) = false := bne_eq_false_iff_eq.mpr c9
          clear c9
          by_cases c10 : ((rd_T88 l0 x5_1).f1).toList = ((rd_T88 l1 x5_1).f1).toList
          ·
           rw [if_pos c10] at H
           have c10b0 : (((rd_T88 l0 x5_1).f1).toList == ((rd_T88 l1 x5_1).f1).toList) = true := beq_iff_eq.mpr c10
           have c10b1 : (((rd_T88 l0 x5_1).f1).toList != ((rd_T88 l1 x5_1).f1).toList) = false := bne_eq_false_iff_eq.mpr c10
           clear c10
           have H' := Aside0.mk H
           clear H
           have p321 : 0 ≤ (x5_1 : Int) := of_decide_eq_true (by first | (with_reducible assumption) | assumption)
           have q321 : x5_1 < (l0.length : Int) := of_decide_eq_true (by first | (with_reducible assumption) | assumption)
           obtain ⟨ad321, e321, hx321_0, hx321_1⟩ := at_T88 HR0.out x5_1 p321 q321
           cases e321
           replace p321 := eq_true p321
           replace q321 := eq_true q321
           have p322 : 0 ≤ (x5_1 : Int) := of_decide_eq_true (by first | (with_reducible assumption) | assumption)
           have q322 : x5_1 < (l1.length : Int) := of_decide_eq_true (by first | (with_reducible assumption) | assumption)
           obtain ⟨ad322, e322, hx322_0, hx322_1⟩ := at_T88 HR1.out x5_1 p322 q322
           cases e322
           replace p322 := eq_true p322
           replace q322 := eq_true q322
           have p323 : 0 ≤ (x5_1 : Int) := of_decide_eq_true (by first | (with_reducible assumption) | assumption)
           have q323 : x5_1 < (l0.length : Int) := of_decide_eq_true (by first | (with_reducible assumption) | assumption)
           obtain ⟨ad323, e323, hx323_0, hx323_1⟩ := at_T88 HR0.out x5_1 p323 q323
           obtain rfl : ad321 = ad323 := (by injection e323)
           replace p323 := eq_true p323
           replace q323 := eq_true q323
           have p324 : 0 ≤ (x5_1 : Int) := of_decide_eq_true (by first | (with_reducible assumption) | assumption)
           have q324 : x5_1 < (l1.length : Int) := of_decide_eq_true (by first | (with_reducible assumption) | assumption)
           obtain ⟨ad324, e324, hx324_0, hx324_1⟩ := at_T88 HR1.out x5_1 p324 q324
           obtain rfl : ad322 = ad324 := (by injection e324)
           replace p324 := eq_true p324
           replace q324 := eq_true q324
           go_wp2
           repeat (go_quiet (fail); try go_wp2)
           go_roundg kj2
           case measure => have := HK1.out; have := HJ2.out; omega
           case rel => exact ⟨(wrap64 (x5_1 + 1)), (by first | rfl | (simp; done) | (simp [*]; done)), H', ⟨by have := HK1.out; have := HJ2.out; omega⟩, by repeat (first | exact Drawn0.refl _ | apply Drawn0.step)⟩
          ·
           rw [if_neg c10] at H
           have c10b0 : (((rd_T88 l0 x5_1).f1).toList == ((rd_T88 l1 x5_1).f1).toList) = false := beq_eq_false_iff_ne.mpr c10
           have c10b1 : (((rd_T88 l0 x5_1).f1).toList != ((rd_T88 l1 x5_1).f1).toList) = true := bne_iff_ne.mpr c10
           obtain rfl := Option.some.inj H
           have p321 : 0 ≤ (x5_1 : Int) := of_decide_eq_true (by first | (with_reducible assumption) | assumption)
           have q321 : x5_1 < (l0.length : Int) := of_decide_eq_true (by first | (with_reducible assumption) | assumption)
           obtain ⟨ad321, e321, hx321_0, hx321_1⟩ := at_T88 HR0.out x5_1 p321 q321
           cases e321
           replace p321 := eq_true p321
           replace q321 := eq_true q321
           have p322 : 0 ≤ (x5_1 : Int) := of_decide_eq_true (by first | (with_reducible assumption) | assumption)
           have q322 : x5_1 < (l1.length : Int) := of_decide_eq_true (by first | (with_reducible assumption) | assumption)
           obtain ⟨ad322, e322, hx322_0, hx322_1⟩ := at_T88 HR1.out x5_1 p322 q322
           cases e322
           replace p322 := eq_true p322
           replace q322 := eq_true q322
           have p323 : 0 ≤ (x5_1 : Int) := of_decide_eq_true (by first | (with_reducible assumption) | assumption)
           have q323 : x5_1 < (l0.length : Int) := of_decide_eq_true (by first | (with_reducible assumption) | assumption)
           obtain ⟨ad323, e323, hx323_0, hx323_1⟩ := at_T88 HR0.out x5_1 p323 q323
           obtain rfl : ad321 = ad323 := (by injection e323)
           replace p323 := eq_true p323
           replace q323 := eq_true q323
           have p324 : 0 ≤ (x5_1 : Int) := of_decide_eq_true (by first | (with_reducible assumption) | assumption)
           have q324 : x5_1 < (l1.length : Int) := of_decide_eq_true (by first | (with_reducible assumption) | assumption)
           obtain ⟨ad324, e324, hx324_0, hx324_1⟩ := at_T88 HR1.out x5_1 p324 q324
           obtain rfl : ad322 = ad324 := (by injection e324)
           replace p324 := eq_true p324
           replace q324 := eq_true q324
           have p325 : 0 ≤ (x5_1 : Int) := of_decide_eq_true (by first | (with_reducible assumption) | assumption)
           have q325 : x5_1 < (l0.length : Int) := of_decide_eq_true (by first | (with_reducible assumption) | assumption)
           obtain ⟨ad325, e325, hx325_0, hx325_1⟩ := at_T88 HR0.out x5_1 p325 q325
           obtain rfl : ad321 = ad325 := (by injection e325)
           replace p325 := eq_true p325
           replace q325 := eq_true q325
           have p326 : 0 ≤ (x5_1 : Int) := of_decide_eq_true (by first | (with_reducible assumption) | assumption)
           have q326 : x5_1 < (l1.length : Int) := of_decide_eq_true (by first | (with_reducible assumption) | assumption)
           obtain ⟨ad326, e326, hx326_0, hx326_1⟩ := at_T88 HR1.out x5_1 p326 q326
           obtain rfl : ad322 = ad326 := (by injection e326)
           replace p326 := eq_true p326
           replace q326 := eq_true q326
           go_wp2
           repeat (go_quiet (fail); try go_wp2)
           go_ret
           exact ⟨by first | rfl | (simp; done) | (simp [*]; done), by repeat (first | exact Drawn0.refl _ | apply Drawn0.step)⟩
         ·
          rw [if_neg c9] at H
          have c9b0 : (((rd_T88 l0 x5_1).f0).toList == ((rd_T88 l1 x5_1).f0).toList) = false := beq_eq_false_iff_ne.mpr c9
          have c9b1 : (((rd_T88 l0 x5_1).f0).toList != ((rd_T88 l1 x5_1).f0).toList) = true := bne_iff_ne.mpr c9
          obtain rfl := Option.some.inj H
          have p321 : 0 ≤ (x5_1 : Int) := of_decide_eq_true (by first | (with_reducible assumption) | assumption)
          have q321 : x5_1 < (l0.length : Int) := of_decide_eq_true (by first | (with_reducible assumption) | assumption)
          obtain ⟨ad321, e321, hx321_0, hx321_1⟩ := at_T88 HR0.out x5_1 p321 q321
          cases e321
          replace p321 := eq_true p321
          replace q321 := eq_true q321
          have p322 : 0 ≤ (x5_1 : Int) := of_decide_eq_true (by first | (with_reducible assumption) | assumption)
          have q322 : x5_1 < (l1.length : Int) := of_decide_eq_true (by first | (with_reducible assumption) | assumption)
          obtain ⟨ad322, e322, hx322_0, hx322_1⟩ := at_T88 HR1.out x5_1 p322 q322
          cases e322
          replace p322 := eq_true p322
          replace q322 := eq_true q322
          have p327 : 0 ≤ (x5_1 : Int) := of_decide_eq_true (by first | (with_reducible assumption) | assumption)
          have q327 : x5_1 < (l0.length : Int) := of_decide_eq_true (by first | (with_reducible assumption) | assumption)
          obtain ⟨ad327, e327, hx327_0, hx327_1⟩ := at_T88 HR0.out x5_1 p327 q327
          obtain rfl : ad321 = ad327 := (by injection e327)
          replace p327 := eq_true p327
          replace q327 := eq_true q327
          have p328 : 0 ≤ (x5_1 : Int) := of_decide_eq_true (by first | (with_reducible assumption) | assumption)
          have q328 : x5_1 < (l1.length : Int) := of_decide_eq_true (by first | (with_reducible assumption) | assumption)
          obtain ⟨ad328, e328, hx328_0, hx328_1⟩ := at_T88 HR1.out x5_1 p328 q328
          obtain rfl : ad322 = ad328 := (by injection e328)
          replace p328 := eq_true p328
          replace q328 := eq_true q328
          go_wp2
          repeat (go_quiet (fail); try go_wp2)
          go_ret
          exact ⟨by first | rfl | (simp; done) | (simp [*]; done), by repeat (first | exact Drawn0.refl _ | apply Drawn0.step)⟩
        ·
         rw [if_neg c8] at H
         exact absurd H (by simp)
       ·
        rw [if_neg c7] at H
        exact absurd H (by simp)
      ·
       rw [if_neg c6] at H
       exact absurd H (by simp)
     ·
      replace c5 := Bool.eq_false_iff.mpr c5
      subst c5
      have H1 : (some (decide ((l0.length : Int) < (l1.length : Int)))) = some r := by rw [if_neg (show ¬ (false = true) by decide)] at H; exact H
      clear H
      have H := H1
      clear H1
      obtain rfl := Option.some.inj H
      go_wp2
      repeat (go_quiet (fail); try go_wp2)
      go_ret
      exact ⟨by first | rfl | (simp; done) | (simp [*]; done), by repeat (first | exact Drawn0.refl _ | apply Drawn0.step)⟩

end Go.Proofs.Yticgekgojgkbgaa.Print
end
section
namespace Go.Proofs.Yticgekgojgkbgaa.Print
open Go.RowKit Go.Proofs.YticgekgojgkbgaaV.PrintWords Go.Proofs.YticgekgojgkbgaaV.PrintLast Go.Proofs.YticgekgojgkbgaaV.PrintMore
attribute [local go_sem] max2_int min2_int max_two min_two max_three min_three max_four min_four   -- for this text's walks alone
set_option linter.unusedVariables false
set_option linter.unusedSimpArgs false

/-! ### impl_byLabels: function 94 -/
section
open Go.Sort Go.Lib
theorem heap_sw {α : Type} [Inhabited α] (enc : α → List Value) (k : Nat) (w : World) (blk off m : Nat) (dk : Array α) (os : Array Obj) (b : Nat) (hb : b ≠ blk) (hl : b < w.heap.size) : (sortWorldK enc k w blk off m dk os).heap[b]? = w.heap[b]? := by
 show ((putRowK enc k (Sort.ahead w m) blk off dk).heap ++ os)[b]? = _
 have hs : (putRowK enc k (Sort.ahead w m) blk off dk).heap.size = w.heap.size := by unfold putRowK; simp
 rw [Array.getElem?_append_left (by rw [hs]; exact hl)]
 show (w.heap.modify blk _)[b]? = _
 rw [Array.getElem?_modify, if_neg (Ne.symm hb)]
theorem heap_sw_self {α : Type} [Inhabited α] (enc : α → List Value) (k : Nat) (w : World) (blk off m : Nat) (dk : Array α) (os : Array Obj) {cur : Array Value} {e : TypeId} {fr : Nat × Nat} (h : w.heap[blk]? = some (.cells cur e fr)) :
  (sortWorldK enc k w blk off m dk os).heap[blk]? = some (.cells (putCells id off (flatK enc k dk) cur) e fr) := by
 have hl : blk < w.heap.size := by
  by_cases hlt : blk < w.heap.size
  ·
   exact hlt
  ·
   rw [Array.getElem?_eq_none (by omega)] at h; cases h
 show ((putRowK enc k (Sort.ahead w m) blk off dk).heap ++ os)[blk]? = _
 have hs : (putRowK enc k (Sort.ahead w m) blk off dk).heap.size = w.heap.size := by unfold putRowK; simp
 rw [Array.getElem?_append_left (by rw [hs]; exact hl)]
 show (w.heap.modify blk _)[blk]? = _
 rw [Array.getElem?_modify, if_pos rfl, h]
 rfl
theorem size_sw {α : Type} [Inhabited α] (enc : α → List Value) (k : Nat) (w : World) (blk off m : Nat) (dk : Array α) (os : Array Obj) : w.heap.size ≤ (sortWorldK enc k w blk off m dk os).heap.size := by
 show _ ≤ ((putRowK enc k (Sort.ahead w m) blk off dk).heap ++ os).size
 have hs : (putRowK enc k (Sort.ahead w m) blk off dk).heap.size = w.heap.size := by unfold putRowK; simp
 rw [Array.size_append, hs]; omega
theorem take_putCells (F cur : Array Value) (h : F.size ≤ cur.size) : (putCells id 0 F cur).toList.take F.size = F.toList := by
 apply List.ext_getElem
 ·
  simp [putCells]; omega
 ·
  intro t h1 h2
  simp only [List.length_take, Array.length_toList] at h1 h2
  simp [putCells, h2]
theorem chunk_flatK {α : Type} [Inhabited α] (enc : α → List Value) (k : Nat) (hk : ∀ x, (enc x).length = k) (d : Array α) (t : Nat) (ht : t < d.size) : ((flatK enc k d).toList.drop (t * k)).take k = enc d[t]! := by
 have b : t * k + k ≤ d.size * k := by
  have := Nat.mul_le_mul_right k (show t + 1 ≤ d.size from ht); rwa [Nat.add_mul, Nat.one_mul] at this
 apply List.ext_getElem
 ·
  simp [hk]; omega
 ·
  intro i h1 h2
  rw [hk] at h2
  have e1 : (t * k + i) / k = t := by rw [Nat.mul_comm, Nat.mul_add_div (by omega), Nat.div_eq_of_lt h2]; rfl
  have e2 : (t * k + i) % k = i := by rw [Nat.mul_comm, Nat.mul_add_mod, Nat.mod_eq_of_lt h2]
  have := get_flatK enc k d (t * k + i) (by omega)
  rw [getElem!_pos _ _ (by simp; omega), e1, e2] at this
  simp only [List.getElem_take, List.getElem_drop, Array.getElem_toList]
  rw [this, getElem!_pos _ _ (by rw [hk]; exact h2)]
/-- A row of rows, its cells by name; and what makes it a row again, its elements in another order. -/
theorem S_cells {α : Type} {d : Kd α} {e g n cap base : Nat} {w : World} {ok : Nat → Prop} {xs : List α} (h : Kd.S d e w base ok (.slice (some ⟨g, 0, none⟩) n cap) xs) :
  ∃ (inner : List Value) (cur : Array Value) (okj : Nat → Nat → Prop), n = xs.length ∧ inner.length = xs.length * d.sz ∧ w.heap[g]? = some (.cells cur e (0, 0)) ∧ xs.length * d.sz ≤ cur.size ∧ cur.toList.take (xs.length * d.sz) = inner ∧ base ≤ g ∧
   (∀ i j k, okj i k → okj j k → i = j) ∧ (∀ j k, okj j k → ok k ∧ k ≠ g) ∧ (∀ j x, xs[j]? = some x → d.M w base (okj j) x ((inner.drop (j * d.sz)).take d.sz)) ∧
   ∀ (w1 : World) (cur1 : Array Value) (inner1 : List Value) (ys : List α) (okj1 : Nat → Nat → Prop), ys.length = xs.length → w1.heap[g]? = some (.cells cur1 e (0, 0)) → cur1.size = cur.size → cur1.toList.take (xs.length * d.sz) = inner1 → (∀ i j k, okj1 i k → okj1 j k → i = j) →
    (∀ j k, okj1 j k → ok k ∧ k ≠ g) → (∀ j y, ys[j]? = some y → d.M w1 base (okj1 j) y ((inner1.drop (j * d.sz)).take d.sz)) → Kd.S d e w1 base ok (.slice (some ⟨g, 0, none⟩) n cap) ys := by
 have hn := (Kd.S_reads' h).1
 obtain ⟨f, h0, inner, ho, hr⟩ := h
 rw [List.length_zipIdx] at ho
 obtain ⟨hl, hc⟩ := ho
 have hl' : inner.length = xs.length * d.sz := hl
 rcases hc with ⟨hc, -⟩ | ⟨g', cap', cur, hv, hg, hh, hle, hm, hsz, ht⟩
 ·
  cases hc
 injection hv with ha h2 h3
 injection ha with ha
 injection ha with ha _ _
 subst ha h3
 have hM : ∀ j x, xs[j]? = some x → d.M w base (fun k => (ok k ∧ k ≠ g) ∧ f k = j) x ((inner.drop (j * d.sz)).take d.sz) := fun j x hx => by
  have := hr.2 j (x, j) (Kd.zip_at hx)
  exact d.M_mono (fun k hk => ⟨⟨hk.1.1, fun e_ => hk.1.2 (by rw [e_]; rfl)⟩, hk.2⟩) this
 refine ⟨inner, cur, fun j k => (ok k ∧ k ≠ g) ∧ f k = j, hn, hl', hh, ?_, ht, hg, fun i j k a b => a.2.symm.trans b.2, fun j k a => a.1, hM, ?_⟩
 ·
  have : cur.size = cap * d.sz := hsz
  rw [this]; exact Nat.mul_le_mul_right _ (by omega)
 ·
  intro w1 cur1 inner1 ys okj1 hys hh1 hs1 ht1 hap hok hM1
  have hz : cur.size = cap * d.sz := hsz
  have hl1 : inner1.length = ys.length * d.sz := by
   have e1 : cur1.toList.length = cap * d.sz := by rw [← hz, ← hs1]; simp
   rw [← ht1, List.length_take, e1, hys]
   exact Nat.min_eq_left (Nat.mul_le_mul_right _ (by omega))
  obtain ⟨f1, hr1⟩ := Kd.reps_tag (d := d) (w := w1) (base := base) (ok := fun k => ok k ∧ some k ≠ (Value.slice (some ⟨g, 0, none⟩) n cap).ownBlock) okj1 hap (fun j k hk => ⟨(hok j k hk).1, fun e_ => (hok j k hk).2 (by injection e_)⟩) hl1 hM1
  refine ⟨f1, h0, inner1, ⟨?_, .inr ⟨g, cap, cur1, by rw [List.length_zipIdx, hys]; first | rfl | (subst hn; rfl), hg, hh1, by rw [List.length_zipIdx, hys]; omega, hm, by rw [hs1]; exact hsz, by rw [List.length_zipIdx, hys]; exact ht1⟩⟩, hr1⟩
  rw [List.length_zipIdx]; exact hl1
end
section
open Go.Sort Go.Lib
open Classical in
noncomputable def impl_byLabels.lt (x y : S43) : Bool := decide (∃ k, impl_SetLess.f k x.f0 y.f0 = some true)
noncomputable def impl_byLabels.at_ (l : List S43) (j : Nat) : S43 := l.getD (if j < l.length then j else 0) z43
noncomputable def impl_byLabels.ltn (l : List S43) (i j : Nat) : Bool := impl_byLabels.lt (impl_byLabels.at_ l i) (impl_byLabels.at_ l j)
noncomputable def impl_byLabels.out (l : List S43) : List S43 := (Stable.stable (impl_byLabels.ltn l) (Array.range l.length) l.length).toList.map (impl_byLabels.at_ l)
open Classical in
noncomputable def impl_byLabels.f (k : Nat) (l0 : List S43) : Option (List S43) := if (∀ x ∈ l0, ∀ y ∈ l0, (impl_SetLess.f k x.f0 y.f0).isSome = true) ∧ l0.length < 1152921504606846976 ∧ SWO (impl_byLabels.ltn l0) then some (impl_byLabels.out l0) else none
theorem impl_byLabels.mono : ∀ a0 k, LeO (impl_byLabels.f k a0) (impl_byLabels.f (k + 1) a0) := by
 intro a0 k r h
 unfold impl_byLabels.f at h ⊢
 split at h
 ·
  rename_i hc
  have hq : ∀ x ∈ a0, ∀ y ∈ a0, (impl_SetLess.f (k + 1) x.f0 y.f0).isSome = true := fun x hx y hy => by
   obtain ⟨v, hv⟩ := Option.isSome_iff_exists.1 (hc.1 x hx y hy)
   rw [impl_SetLess.mono _ _ k v hv]; rfl
  rw [if_pos ⟨hq, hc.2⟩]
  exact h
 ·
  cases h
theorem impl_byLabels.more (a b : List S88) (v : Bool) (k : Nat) (h : impl_SetLess.f k a b = some v) : ∀ m, impl_SetLess.f (k + m) a b = some v
 | 0 => h
 | m + 1 => impl_SetLess.mono _ _ _ _ (impl_byLabels.more a b v k h m)
open Classical in
theorem impl_byLabels.lt_eq {x y : S43} {v : Bool} {k : Nat} (h : impl_SetLess.f k x.f0 y.f0 = some v) : impl_byLabels.lt x y = v := by
 unfold impl_byLabels.lt
 cases v with
 | true => exact decide_eq_true ⟨k, h⟩
 | false =>
  refine decide_eq_false ?_
  rintro ⟨k', h'⟩
  have a := impl_byLabels.more _ _ _ _ h k'
  have b := impl_byLabels.more _ _ _ _ h' k
  rw [Nat.add_comm k' k, a] at b
  cases b
theorem impl_byLabels.lit (k B g n c i j : Nat) (W : World) (A0 : Option Addr) (c0 : Nat) (a : List S88) (A1 : Option Addr) (c1 : Nat) (b : List S88) (r : Bool) (hB : W.cell? ⟨B, 0, none⟩ = some (.slice (some ⟨g, 0, none⟩) n c)) (hi : i < n) (hj : j < n) (hn : n < 1152921504606846976)
  (ci : W.cell? ⟨g, i * 4, none⟩ = some (.slice A0 a.length c0)) (cj : W.cell? ⟨g, j * 4, none⟩ = some (.slice A1 b.length c1)) (r0 : Kd.C k88 W A0 a.length a) (l0 : a.length ≤ c0) (r1 : Kd.C k88 W A1 b.length b) (l1 : b.length ≤ c1) (h : impl_SetLess.f k a b = some r) :
  Calls Try.prog 116 #[.int .i64 i, .int .i64 j, .pointer (some ⟨B, 0, none⟩)] W fun e w' => e = .returned (.bool r) ∧ ∃ q, w' = W.drewN q := by
 have hii : (i : Int) < n := by omega
 have hjj : (j : Int) < n := by omega
 have R0 := Aside0.mk r0
 have R1 := Aside0.mk r1
 have HH := Aside0.mk h
 clear r0 r1 h
 go_enter Try.func116, Try.ntmps116
 go_wp2
 go_quiet (first | (go_at_call 117; exact Calls.quiet_of ((impl_SetLess.calls k A0 c0 a A1 c1 b r _ (Kd.C_drewN R0.out _) l0 (Kd.C_drewN R1.out _) l1 HH.out).mono fun _ _ ⟨he, hd⟩ => ⟨he, hd.out⟩)))
 go_wp2
 go_ret
 exact ⟨rfl, nq, rfl⟩
noncomputable def impl_byLabels.sT : TypeInfo := (Try.prog.info? 44).get (by kernel_rfl)
noncomputable def impl_byLabels.sE : TypeInfo := (Try.prog.info? 43).get (by kernel_rfl)
theorem impl_byLabels.sK (n : Nat) (h2 : 2 ≤ n) : swapperK n impl_byLabels.sE 25 = 9 := by
 have a : impl_byLabels.sE.hasPointers = true := by kernel_rfl
 have b : impl_byLabels.sE.bytes = 56 := by kernel_rfl
 have c : (n == 0) = false := by simp; omega
 have d : (n == 1) = false := by simp; omega
 simp [swapperK, a, b, c, d]
theorem impl_byLabels.tiny (A0 : Option Addr) (n c : Nat) (hn : n ≤ 1) (la : Array Value) (w : World) :
  Calls Try.prog 115 #[.iface 44 (.slice A0 n c), .func (.func 116) #[] la] w fun e w' => e = .returned (.tuple #[]) ∧ ∃ os, w' = grow w os := by
 have sw : ∃ f, Try.prog.funcs.findIdx? (·.name == "internal/reflectlite" ++ ".Swapper$" ++ toString (swapperK n impl_byLabels.sE 25)) = some f := by
  rcases (show n = 0 ∨ n = 1 by omega) with rfl | rfl
  ·
   exact ⟨_, (by kernel_rfl : Try.prog.funcs.findIdx? (·.name == "internal/reflectlite" ++ ".Swapper$" ++ toString (swapperK 0 impl_byLabels.sE 25)) = some (145 - 8))⟩
  ·
   exact ⟨_, (by kernel_rfl : Try.prog.funcs.findIdx? (·.name == "internal/reflectlite" ++ ".Swapper$" ++ toString (swapperK 1 impl_byLabels.sE 25)) = some (145 - 7))⟩
 obtain ⟨f, hf⟩ := sw
 exact Any.sort_SliceStable_tiny Try.laysGt8 44 43 impl_byLabels.sT impl_byLabels.sE (by kernel_rfl) (by kernel_rfl) (by kernel_rfl) (by kernel_rfl) 25 (fun _ => by kernel_rfl) A0 n c hn f hf (.func 116) #[] la w
theorem impl_byLabels.out_tiny (l : List S43) (h : l.length ≤ 1) : impl_byLabels.out l = l := by
 have e : ∀ (d : Array Nat), Stable.stable (impl_byLabels.ltn l) d l.length = d := fun d => by
  unfold Stable.stable
  rw [Stable.stBlocks, if_neg (by omega), Stable.stOuter, if_neg (by omega)]
  unfold insertionSort
  rw [insOuter, if_neg (by omega)]
 unfold impl_byLabels.out
 rw [e]
 match l, h with
 | [], _ => rfl
 | [x], _ => rfl
/-- What the sort leaves: the row in its order, all else as it was. -/
theorem impl_byLabels.sorts (k : Nat) (P0_ : Nat → Prop) (g c : Nat) (l0 : List S43) (base : Nat) (w : World) (ho : Kd.S k43 43 w base P0_ (.slice (some ⟨g, 0, none⟩) l0.length c) l0) (h2 : 2 ≤ l0.length)
  (hq : ∀ x ∈ l0, ∀ y ∈ l0, (impl_SetLess.f k x.f0 y.f0).isSome = true) (hsz : l0.length < 1152921504606846976) (hO : SWO (impl_byLabels.ltn l0)) :
  Calls Try.prog 115 #[.iface 44 (.slice (some ⟨g, 0, none⟩) l0.length c), .func (.func 116) #[] #[.pointer (some ⟨w.heap.size, 0, none⟩)]] (w.alloc (.cells #[.slice (some ⟨g, 0, none⟩) l0.length c] 44)) fun e w' =>
   e = .returned (.tuple #[]) ∧ w'.cell? ⟨w.heap.size, 0, none⟩ = some (.slice (some ⟨g, 0, none⟩) l0.length c) ∧ Kd.S k43 43 w' base P0_ (.slice (some ⟨g, 0, none⟩) l0.length c) (impl_byLabels.out l0) ∧
   (∀ b, b ≠ g → b < w.heap.size → w'.heap[b]? = w.heap[b]?) ∧ w.heap.size ≤ w'.heap.size ∧ w'.os = w.os ∧ w'.tape = w.tape ∧ w'.output = w.output ∧ base ≤ g ∧ P0_ g := by
 have hP0 : P0_ g := (Kd.S_R ho).1 g rfl
 obtain ⟨inner, cur, okj, -, hil, hh, hcs, hct, hg, hap, hok, hM, hback⟩ := S_cells ho
 have hgl : g < w.heap.size := blk_lt hh
 change inner.length = l0.length * 4 at hil
 change l0.length * 4 ≤ cur.size at hcs
 change cur.toList.take (l0.length * 4) = inner at hct
 let ej : Nat → Nat := fun j => if j < l0.length then j else 0
 have hej : ∀ j, ej j < l0.length := fun j => by show (if j < l0.length then j else 0) < _; split <;> omega
 have hel : ∀ j, l0[ej j]? = some (impl_byLabels.at_ l0 j) := fun j => by
  unfold impl_byLabels.at_
  rw [List.getElem?_eq_getElem (hej j), List.getD_eq_getElem?_getD, List.getElem?_eq_getElem (hej j)]; rfl
 have hmem : ∀ j, impl_byLabels.at_ l0 j ∈ l0 := fun j => List.mem_of_getElem? (hel j)
 let enc : Nat → List Value := fun j => (inner.drop (ej j * 4)).take 4
 have hk : ∀ j, (enc j).length = 4 := fun j => by
  show ((inner.drop (ej j * 4)).take 4).length = 4
  have := hej j
  rw [List.length_take, List.length_drop, hil]; omega
 have hMe : ∀ j, k43.M w base (okj (ej j)) (impl_byLabels.at_ l0 j) (enc j) := fun j => hM _ _ (hel j)
 have hone : ∀ j, ∀ v ∈ enc j, v.oneCell' = true := fun j => k43.K_one (k43.K_of_M (hMe j))
 have hd : (Array.range l0.length).size = l0.length := by simp
 have hcell : ∀ t, t < l0.length * 4 → w.cell? ⟨g, t, none⟩ = some inner[t]! := fun t ht => by
  rw [blk_cell hh, getElem!_pos inner t (by omega), Array.getElem?_eq_getElem (by omega)]
  have := List.getElem_take (xs := cur.toList) (j := l0.length * 4) (i := t) (h := by rw [hct, hil]; exact ht)
  simp only [hct] at this
  rw [this]; rfl
 have hH : HoldsK enc 4 w g 0 (Array.range l0.length) := by
  intro t ht
  rw [size_flatK, hd] at ht
  refine ⟨?_, by rw [Nat.zero_add]; exact blk_frozen hh t⟩
  rw [Nat.zero_add, hcell t ht]
  show some _ = some (flatK enc 4 (Array.range l0.length))[t]!
  rw [get_flatK _ _ _ _ (by rw [hd]; exact ht)]
  have hq4 : t / 4 < l0.length := by omega
  rw [show (Array.range l0.length)[t / 4]! = t / 4 by simp [hq4]]
  show _ = some ((inner.drop (ej (t / 4) * 4)).take 4)[t % 4]!
  rw [show ej (t / 4) = t / 4 from if_pos hq4, getElem!_pos _ (t % 4) (by simp [hil]; omega), List.getElem_take, List.getElem_drop, getElem!_pos inner t (by omega)]
  congr 2; omega
 have hwb : ∀ o, w.alloc o = grow w #[o] := fun o => alloc_eq_grow w o
 have hH1 : HoldsK enc 4 (w.alloc (.cells #[.slice (some ⟨g, 0, none⟩) l0.length c] 44)) g 0 (Array.range l0.length) := by rw [hwb]; exact holdsK_grow enc 4 w _ g 0 _ hgl hH
 have hg1 : g < (w.alloc (.cells #[.slice (some ⟨g, 0, none⟩) l0.length c] 44)).heap.size := by rw [hwb, size_grow]; omega
 have hbs : w.heap.size < (w.alloc (.cells #[.slice (some ⟨g, 0, none⟩) l0.length c] 44)).heap.size := by rw [hwb, size_grow]; simp
 have hbox : (w.alloc (.cells #[.slice (some ⟨g, 0, none⟩) l0.length c] 44)).cell? ⟨w.heap.size, 0, none⟩ = some (.slice (some ⟨g, 0, none⟩) l0.length c) := by simp
 have hheap : ∀ m dk os b, b ≠ g → b < w.heap.size → (sortWorldK enc 4 (w.alloc (.cells #[.slice (some ⟨g, 0, none⟩) l0.length c] 44)) g 0 m dk os).heap[b]? = w.heap[b]? := fun m dk os b hb hl => by
  rw [heap_sw enc 4 _ g 0 m dk os b hb (by omega), Below.heap_alloc w _ b hl]
 have hboxw : ∀ m dk os, (sortWorldK enc 4 (w.alloc (.cells #[.slice (some ⟨g, 0, none⟩) l0.length c] 44)) g 0 m dk os).cell? ⟨w.heap.size, 0, none⟩ = some (.slice (some ⟨g, 0, none⟩) l0.length c) := fun m dk os => by
  rw [World.cell?_of_block (heap_sw enc 4 _ g 0 m dk os w.heap.size (by omega) hbs)]; exact hbox
 have hless : LessReadsK Try.prog 116 #[.pointer (some ⟨w.heap.size, 0, none⟩)] enc 4 (impl_byLabels.ltn l0) g 0 (Array.range l0.length).size (w.alloc (.cells #[.slice (some ⟨g, 0, none⟩) l0.length c] 44)) := by
  intro m os dk hs i j hi hj
  have hHw : HoldsK enc 4 (sortWorldK enc 4 (w.alloc (.cells #[.slice (some ⟨g, 0, none⟩) l0.length c] 44)) g 0 m dk os) g 0 dk :=
   (Stable.SWK.on (Stable.SWK.start hH1) hg1 m dk os hs).holds hg1 hH1 hs
  have row : ∀ t : Nat, ∃ A0 c0, (sortWorldK enc 4 (w.alloc (.cells #[.slice (some ⟨g, 0, none⟩) l0.length c] 44)) g 0 m dk os).cell? ⟨g, t * 4, none⟩ = some (.slice A0 (impl_byLabels.at_ l0 dk[t]!).f0.length c0) ∧ (impl_byLabels.at_ l0 dk[t]!).f0.length ≤ c0 ∧
    Kd.C k88 (sortWorldK enc 4 (w.alloc (.cells #[.slice (some ⟨g, 0, none⟩) l0.length c] 44)) g 0 m dk os) A0 (impl_byLabels.at_ l0 dk[t]!).f0.length (impl_byLabels.at_ l0 dk[t]!).f0 ∨ dk.size ≤ t := fun t => by
   by_cases ht : t < dk.size
   ·
    obtain ⟨v0, hv, hR⟩ := k43_openM (hMe dk[t]!)
    have hR2 := Kd.R_step hR (fun b hb hl => hheap m dk os b (hok _ b hb).2 hl)
    obtain ⟨A0, c0, rfl, hl0, hC⟩ := Kd.R_reads hR2
    have := (hHw.cell ht (show 0 < 4 by decide)).1
    rw [hv] at this
    refine ⟨A0, c0, Or.inl ⟨by simpa using this, hl0, hC⟩⟩
   ·
    exact ⟨none, 0, Or.inr (by omega)⟩
  rw [hd] at hi hj hs
  obtain ⟨A0, c0, ⟨ci, li, Ci⟩ | hx⟩ := row i
  ·
   obtain ⟨A1, c1, ⟨cj, lj, Cj⟩ | hx⟩ := row j
   ·
    obtain ⟨v, hv⟩ := Option.isSome_iff_exists.1 (hq _ (hmem dk[i]!) _ (hmem dk[j]!))
    have hlt : impl_byLabels.ltn l0 dk[i]! dk[j]! = v := impl_byLabels.lt_eq hv
    rw [hlt]
    exact impl_byLabels.lit k w.heap.size g l0.length c i j _ A0 c0 _ A1 c1 _ v (hboxw m dk os) hi hj hsz ci cj Ci li Cj lj hv
   ·
    omega
  ·
   omega
 have hS := Stable.sliceStable_cells Try.laysGt8 44 43 impl_byLabels.sT impl_byLabels.sE (by kernel_rfl) (by kernel_rfl) (by kernel_rfl) (by kernel_rfl) 25 (fun _ => by kernel_rfl) enc 4 hk (by kernel_rfl) (fun _ => by kernel_rfl) hone (impl_byLabels.ltn l0) 116 _
  (enters_of Try.func116 (by kernel_rfl) rfl) g 0 c (Array.range l0.length) (by rw [hd]; exact h2) (by rw [hd]; exact hsz) 145 (by rw [hd, impl_byLabels.sK _ h2]; kernel_rfl) false
  (fun args W => run_callFunc_extern Try.func145 (by kernel_rfl) (by kernel_rfl) (by kernel_rfl) (e := Extern.ReflectliteSwapper.swap false) (by kernel_rfl) args W) _ hless hH1 hg1
 rw [hd] at hS
 refine hS.mono ?_
 rintro e w' ⟨rfl, m, os, rfl⟩
 obtain ⟨s1, s2, -⟩ := Stable.stable_spec hO (Array.range l0.length)
 rw [hd] at s1 s2
 generalize hdk : Stable.stable (impl_byLabels.ltn l0) (Array.range l0.length) l0.length = dk at *
 have hlt : ∀ j ∈ dk.toList, j < l0.length := fun j hj => by
  have := (s2.mem hO j).1 hj; simpa using this
 have hnd : dk.toList.Nodup := by
  rw [List.nodup_iff_count]
  intro x
  have e : ∀ l : List Nat, (l.filter (Stable.eqv (impl_byLabels.ltn l0) x)).count x = l.count x := fun l => List.count_filter (by simp [Stable.eqv, hO.irrefl])
  rw [← e, s2 x, e]
  have : ((Array.range l0.length).toList).Nodup := by simpa using List.nodup_range
  exact List.nodup_iff_count.1 this x
 have hgt : ∀ t, t < l0.length → dk[t]! ∈ dk.toList := fun t ht => by
  rw [getElem!_pos dk t (by omega)]; exact Array.getElem_mem_toList _
 have hhw : (w.alloc (.cells #[.slice (some ⟨g, 0, none⟩) l0.length c] 44)).heap[g]? = some (.cells cur 43 (0, 0)) := by rw [Below.heap_alloc w _ g hgl]; exact hh
 have hw' := heap_sw_self enc 4 (w.alloc (.cells #[.slice (some ⟨g, 0, none⟩) l0.length c] 44)) g 0 m dk os hhw
 refine ⟨rfl, hboxw m dk os, ?_, fun b hb hl => hheap m dk os b hb hl, Nat.le_trans (by omega) (size_sw enc 4 (w.alloc (.cells #[.slice (some ⟨g, 0, none⟩) l0.length c] 44)) g 0 m dk os), rfl, rfl, rfl, hg, hP0⟩
 have hfs : (flatK enc 4 dk).size = l0.length * 4 := by rw [size_flatK, s1]
 refine hback _ _ (flatK enc 4 dk).toList _ (fun t k_ => t < l0.length ∧ okj (ej dk[t]!) k_) ?_ hw' (by simp [putCells]) ?_ ?_ ?_ ?_
 ·
  unfold impl_byLabels.out; rw [hdk]; simp [s1]
 ·
  show (putCells id 0 (flatK enc 4 dk) cur).toList.take (l0.length * 4) = _
  rw [← hfs]; exact take_putCells _ _ (by omega)
 ·
  rintro i j k_ ⟨hi, a⟩ ⟨hj, b⟩
  have e := hap _ _ _ a b
  have ei : ej dk[i]! = dk[i]! := if_pos (hlt _ (hgt i hi))
  have ejj : ej dk[j]! = dk[j]! := if_pos (hlt _ (hgt j hj))
  rw [ei, ejj, getElem!_pos dk i (by omega), getElem!_pos dk j (by omega)] at e
  exact (List.getElem_inj (h₀ := by simp; omega) (h₁ := by simp; omega) hnd).1 (by simpa using e)
 ·
  rintro j k_ ⟨-, a⟩; exact hok _ _ a
 ·
  intro t y hy
  unfold impl_byLabels.out at hy
  rw [hdk, List.getElem?_map] at hy
  obtain ⟨x, hx, rfl⟩ := Option.map_eq_some_iff.1 hy
  have ht : t < l0.length := by
   have := (List.getElem?_eq_some_iff.1 hx).1; simp at this; omega
  have hx' : x = dk[t]! := by
   rw [getElem!_pos dk t (by omega)]
   have := (List.getElem?_eq_some_iff.1 hx).2; rw [← this]; simp
  subst hx'
  show k43.M _ base _ _ (((flatK enc 4 dk).toList.drop (t * 4)).take 4)
  rw [chunk_flatK enc 4 hk dk t (by omega)]
  exact k43.M_mono (fun k_ hk_ => ⟨ht, hk_⟩) (Kd.M_step (hMe dk[t]!) (fun b hb hl => hheap m dk os b (hok _ b hb).2 hl))
set_option maxHeartbeats 4000000 in
set_option maxRecDepth 100000 in
theorem impl_byLabels.calls (k : Nat) (P0_ : Nat → Prop) (v : Value) (l0 : List S43) (r : List S43) (w0 w : World) (hB : Below w0.heap.size w0 w) (ho0 : Kd.S k43 43 w w0.heap.size P0_ v l0) (h : impl_byLabels.f k l0 = some r) :
  Calls Try.prog 94 #[v] w fun e w' => ∃ v_, e = .returned v_ ∧ Kd.S k43 43 w' w0.heap.size P0_ v_ r ∧ Below w0.heap.size w0 w' ∧ Kept w w' (fun k_ => P0_ k_) := by
 unfold impl_byLabels.f at h
 split at h
 rotate_left
 ·
  cases h
 rename_i hc
 injection h with h
 subst h
 obtain ⟨hq, hsz, hO⟩ := hc
 obtain ⟨A0, c, rfl⟩ := Kd.S_slice ho0
 have post : ∀ w' : World, Kd.S k43 43 w' w0.heap.size P0_ (.slice A0 l0.length c) (impl_byLabels.out l0) → (∀ b, ¬ (w0.heap.size ≤ b ∧ P0_ b) → b < w.heap.size → w'.heap[b]? = w.heap[b]?) → w.heap.size ≤ w'.heap.size → w'.os = w.os → w'.tape = w.tape → w'.output = w.output →
   Kd.S k43 43 w' w0.heap.size P0_ (.slice A0 l0.length c) (impl_byLabels.out l0) ∧ Below w0.heap.size w0 w' ∧ Kept w w' (fun k_ => P0_ k_) := fun w' a b s o t u =>
  ⟨a, ⟨o.trans hB.os, t.trans hB.tape, u.trans hB.output, Nat.le_trans hB.size s, fun k_ hk_ => (b k_ (fun e_ => by omega) (Nat.lt_of_lt_of_le hk_ hB.size)).trans (hB.block k_ hk_)⟩, s, fun i hi hn => b i (fun e_ => hn e_.2) hi⟩
 by_cases h2 : 2 ≤ l0.length
 ·
  obtain ⟨g, cap, hv, -, -, -⟩ := Kd.S_form ho0 (by omega)
  injection hv with hv1 _ hv2
  subst hv1 hv2
  have hS := impl_byLabels.sorts k P0_ g c l0 w0.heap.size w ho0 h2 hq hsz hO
  have HP := Aside0.mk post
  clear post ho0 hB hq hO
  go_enter Try.func94, Try.ntmps94
  go_wp2_with (go_at_call 115; refine hS.mono ?_; rintro e w' ⟨rfl, hbx, hp⟩)
  go_ret
  obtain ⟨a, b, s, o, t, u, hg, hP⟩ := hp
  exact ⟨_, rfl, HP.out _ a (fun k_ hk_ hl_ => b k_ (fun e_ => hk_ (e_ ▸ ⟨hg, hP⟩)) hl_) s o t u⟩
 ·
  have hS := impl_byLabels.tiny A0 l0.length c (by omega) #[.pointer (some ⟨w.heap.size, 0, none⟩)] (w.alloc (.cells #[.slice A0 l0.length c] 44))
  have hb : ∀ os b, b < w.heap.size → (grow (w.alloc (.cells #[.slice A0 l0.length c] 44)) os).heap[b]? = w.heap[b]? := fun os b hb => by
   rw [alloc_eq_grow, grow_grow]; exact Array.getElem?_append_left hb
  have hbx : ∀ os, (grow (w.alloc (.cells #[.slice A0 l0.length c] 44)) os).cell? ⟨w.heap.size, 0, none⟩ = some (.slice A0 l0.length c) := fun os => by
   rw [cell?_grow _ _ _ (by rw [alloc_eq_grow, size_grow]; simp)]; simp
  have HS := Aside0.mk ho0
  have HP := Aside0.mk post
  have HO := Aside0.mk (impl_byLabels.out_tiny l0 (by omega))
  have hS' : Calls Try.prog 115 #[.iface 44 (.slice A0 l0.length c), .func (.func 116) #[] #[.pointer (some ⟨w.heap.size, 0, none⟩)]] (w.alloc (.cells #[.slice A0 l0.length c] 44)) fun e w' => e = .returned (.tuple #[]) ∧ w'.cell? ⟨w.heap.size, 0, none⟩ = some (.slice A0 l0.length c) ∧ ∃ os, w' = grow (w.alloc (.cells #[.slice A0 l0.length c] 44)) os :=
   hS.mono fun e w' ⟨he, os, hw⟩ => ⟨he, hw ▸ hbx os, os, hw⟩
  have HBX := Aside0.mk hb
  clear post ho0 hB hq hO hS hbx hb
  go_enter Try.func94, Try.ntmps94
  go_wp2_with (go_at_call 115; refine hS'.mono ?_; rintro e w' ⟨rfl, hbx, hp⟩)
  go_ret
  obtain ⟨os, rfl⟩ := hp
  refine ⟨_, rfl, HP.out _ ?_ (fun k_ _ hl_ => HBX.out os k_ hl_) ?_ rfl rfl rfl⟩
  ·
   rw [HO.out]; exact Kd.S_step HS.out (fun b _ hl => HBX.out os b hl)
  ·
   rw [alloc_eq_grow, grow_grow, size_grow]; omega
end

end Go.Proofs.Yticgekgojgkbgaa.Print
end
section
namespace Go.Proofs.Yticgekgojgkbgaa.Print
open Go.RowKit Go.Proofs.YticgekgojgkbgaaV.PrintWords Go.Proofs.YticgekgojgkbgaaV.PrintLast Go.Proofs.YticgekgojgkbgaaV.PrintMore
attribute [local go_sem] max2_int min2_int max_two min_two max_three min_three max_four min_four   -- for this text's walks alone
set_option linter.unusedVariables false
set_option linter.unusedSimpArgs false

/-! ### impl_AllAlarms: function 51 -/
noncomputable def impl_AllAlarms.l0 : Nat → List (S43) → List (S57) → Int → Int → Option ((List (S43)))
 | 0, _, _, _, _ => none
 | k + 1, x3, x6, x7, x8 => if x8 < x7 then (if 0 ≤ x8 then (if x8 < (x6.length : Int) then ((impl_AlarmsIn.f k ((rd_T57 x6 x8).f0) ((rd_T57 x6 x8).f1) ((rd_T57 x6 x8).f2)).bind fun t331 => (if x3.length + t331.length < 2513169434916 then (impl_AllAlarms.l0 k (x3 ++ t331) x6 x7 (wrap64 (x8 + 1))) else (none))) else (none)) else (none)) else ((impl_byLabels.f k x3).bind fun t337 => (some t337))
noncomputable def impl_AllAlarms.f (k : Nat) (l0 : List (S57)) : Option ((List (S43))) := impl_AllAlarms.l0 k ([] : List (S43)) l0 (l0.length : Int) 0
theorem impl_AllAlarms.mono_l : ∀ k, (∀ y0 y1 y2 y3, LeO (impl_AllAlarms.l0 k y0 y1 y2 y3) (impl_AllAlarms.l0 (k + 1) y0 y1 y2 y3))
 | 0 => fun _ _ _ _ r h => by simp [impl_AllAlarms.l0] at h
 | k + 1 => by
  have ih0 := impl_AllAlarms.mono_l k
  ·
   intro y0 y1 y2 y3
   unfold impl_AllAlarms.l0
   repeat' first
   | (with_reducible exact ih0 _ _ _ _)
   | (with_reducible exact impl_AlarmsIn.mono _ _ _ _)
   | (with_reducible exact impl_byLabels.mono _ _)
   | (with_reducible exact LeO.refl _)
   | (with_reducible exact LeO.none _)
   | (with_reducible refine LeO.ite ?_ ?_)
   | (with_reducible refine LeO.bind ?_ (fun _ => ?_))
   | exact ih0 _ _ _ _
   | exact impl_AlarmsIn.mono _ _ _ _
   | exact impl_byLabels.mono _ _
   | exact LeO.none _
   | refine LeO.ite ?_ ?_
   | refine LeO.bind ?_ (fun _ => ?_)
theorem impl_AllAlarms.mono : ∀ a0 k, LeO (impl_AllAlarms.f k a0) (impl_AllAlarms.f (k + 1) a0) := by
 intro a0 k
 have ih0 := impl_AllAlarms.mono_l k
 unfold impl_AllAlarms.f
 repeat' first
   | (with_reducible exact ih0 _ _ _ _)
   | (with_reducible exact impl_AlarmsIn.mono _ _ _ _)
   | (with_reducible exact impl_byLabels.mono _ _)
   | (with_reducible exact LeO.refl _)
   | (with_reducible exact LeO.none _)
   | (with_reducible refine LeO.ite ?_ ?_)
   | (with_reducible refine LeO.bind ?_ (fun _ => ?_))
   | exact ih0 _ _ _ _
   | exact impl_AlarmsIn.mono _ _ _ _
   | exact impl_byLabels.mono _ _
   | exact LeO.none _
   | refine LeO.ite ?_ ?_
   | refine LeO.bind ?_ (fun _ => ?_)
set_option maxHeartbeats 8000000 in
set_option maxRecDepth 100000 in
theorem impl_AllAlarms.calls (k : Nat) (A0 : Option Addr) (c0 : Nat) (l0 : List (S57)) (r : List (S43)) (w : World) (hr0 : Kd.C k57 w A0 l0.length l0) (hc0 : l0.length ≤ c0) (h : impl_AllAlarms.f k l0 = some r) :
  Calls Try.prog 51 #[.slice A0 l0.length c0] w fun e w' => ∃ v0_ : Value, e = .returned (v0_) ∧ Kd.S k43 43 w' w.heap.size (fun _ => True) v0_ r ∧ Below w.heap.size w w' := by
 have hu57 := Try.underlying57
 have HR0 := Aside0.mk hr0
 have HC0 := Aside0.mk hc0
 clear hr0 hc0
 have HB := Aside0.mk (Below.refl w.heap.size w)
 have H : (impl_AllAlarms.l0 k ([] : List (S43)) l0 (l0.length : Int) 0) = some r := h
 clear h
 have H' := Aside0.mk H
 clear H
 go_enter Try.func51, Try.ntmps51
 go_wp2
 go_loopg [3, 8] k (fun kq v3 v8 w' => ∃ (x3_1 : List (S43)) (x8_1 : Int), v8 = .int .i64 x8_1 ∧ Aside0 (impl_AllAlarms.l0 kq x3_1 l0 (l0.length : Int) x8_1 = some r) ∧ Aside0 (kq ≤ k) ∧ Aside0 (Kd.S k43 43 w' w.heap.size (fun _ => True) v3 x3_1) ∧ Aside0 (Below w.heap.size w w'))
 case atStart => exact ⟨(([] : List (S43))), (0), (by first | rfl | (simp; done) | (simp [*]; done)), H', ⟨Nat.le_refl _⟩, ⟨by first | exact Kd.S_nil _ _ _ _ _ | exact Kd.N_nil _ _ _ _ _ | exact Kd.V_nil _ _ _ _ _ | exact Kd.Q_nil _ _ _ _ _ | exact Kd.R_nil _ _ _ _ _⟩, ⟨by repeat (first | (with_reducible first | exact HB.out | apply below_alloc | apply pw_below_drewN | apply below_drew1) | exact HB.out)⟩⟩
 case round =>
  clear H'
  obtain ⟨x3_1, x8_1, rfl, HA, HK1, HO_3, HB⟩ := hrel
  cases gk with
  | zero => exact absurd HA.out (by simp [impl_AllAlarms.l0])
  | succ k1 =>
   have H := HA.out
   clear HA
   simp only [impl_AllAlarms.l0] at H
   by_cases c2 : x8_1 < (l0.length : Int)
   ·
    rw [if_pos c2] at H
    have c2b0 : decide (x8_1 < (l0.length : Int)) = true := decide_eq_true c2
    clear c2
    by_cases c3 : 0 ≤ x8_1
    ·
     rw [if_pos c3] at H
     have c3b0 : decide (0 ≤ x8_1) = true := decide_eq_true c3
     clear c3
     by_cases c4 : x8_1 < (l0.length : Int)
     ·
      rw [if_pos c4] at H
      have c4b0 : decide (x8_1 < (l0.length : Int)) = true := decide_eq_true c4
      clear c4
      replace H := Option.bind_eq_some_iff.mp H
      obtain ⟨t331, A50, H⟩ := H
      replace H : (if x3_1.length + t331.length < 2513169434916 then (impl_AllAlarms.l0 k1 (x3_1 ++ t331) l0 (l0.length : Int) (wrap64 (x8_1 + 1))) else (none)) = some r := H
      have A5 := Aside0.mk A50
      clear A50
      by_cases c6 : x3_1.length + t331.length < 2513169434916
      ·
       rw [if_pos c6] at H
       have LMc6 := Aside0.mk c6
       clear c6
       obtain ⟨y334, hy334⟩ : ∃ y_ : List (S43), y_ = (x3_1 ++ t331) := ⟨_, rfl⟩
       replace H : (impl_AllAlarms.l0 k1 y334 l0 (l0.length : Int) (wrap64 (x8_1 + 1))) = some r := by first | (rw [hy334]; with_reducible exact H) | (have H2_ := (Option.bind_some _ _).symm.trans H; rw [hy334]; with_reducible exact H2_) | (have H2_ := (Option.bind_some _ _).symm.trans H; with_reducible exact H2_) | with_reducible exact H | (rw [hy334]; exact H) | exact H
       have Ny334 := Aside0.mk hy334
       clear hy334
       have H' := Aside0.mk H
       clear H
       have p329 : 0 ≤ (x8_1 : Int) := of_decide_eq_true (by first | (with_reducible assumption) | assumption)
       have q329 : x8_1 < (l0.length : Int) := of_decide_eq_true (by first | (with_reducible assumption) | assumption)
       obtain ⟨ad329, A329_2, c329_2, e329, hx329_0, hx329_1, hx329_2, hl329_2, hi329_2⟩ := at_T57 HR0.out x8_1 p329 q329
       cases e329
       replace hx329_0 := (HB.out.cell (World.block_lt_of_cell? w _ hx329_0)).trans hx329_0
       replace hx329_1 := (HB.out.cell (World.block_lt_of_cell? w _ hx329_1)).trans hx329_1
       replace hx329_2 := (HB.out.cell (World.block_lt_of_cell? w _ hx329_2)).trans hx329_2
       have HR329_2 := Aside0.mk hi329_2
       have HC329_2 := Aside0.mk hl329_2
       clear hi329_2 hl329_2
       replace p329 := eq_true p329
       replace q329 := eq_true q329
       go_wp2_with (first | ((with_reducible refine gate_dst (N := 5) rfl ?_); refine box_event ?hg (N := 5) ?hd (cs := #[.int .i64 0, .int .i64 0, .slice none 0 0]) (t := 57) ?hr ?_; (case hd => rfl); (case hg => rfl); (case hr => first | (go_simp; done) | (go_simp; rfl)); intro gb330 hg w7 hbox hb; have n0_ := Aside0.mk (Kd.S_below (by (with_reducible repeat (first | apply Kd.S_alloc | apply Kd.S_drewN | apply Kd.S_drew)); exact HO_3.out) hb); have n1_ := Aside0.mk (below_step (by repeat (first | (with_reducible first | exact HB.out | apply below_alloc | apply pw_below_drewN | apply below_drew1) | exact HB.out)) hb); have n2_ := Aside0.mk (hbox); have n3_ := Aside0.mk ((by rw [hg]; exact (below_size (by repeat (first | (with_reducible first | exact HB.out | apply below_alloc | apply pw_below_drewN | apply below_drew1) | exact HB.out))) : w.heap.size ≤ gb330)); have n4_ := Aside0.mk ((by rw [hg]; exact (below_size (by repeat (first | (with_reducible first | exact HB.out | apply below_alloc | apply pw_below_drewN | apply below_drew1) | exact HB.out))) : w.heap.size ≤ gb330)); clear HO_3; clear HB; have HO_3 := n0_; have HB := n1_; have BK330 := n2_; have GW330 := n3_; have GE330 := n4_; clear n0_ n1_ n2_ n3_ n4_; clear hb hbox hg; have hcz8_0 : w7.cell? ⟨gb330, 0, none⟩ = some (.int .i64 0) := (blk_cell BK330.out 0).trans rfl; have hcz8_1 : w7.cell? ⟨gb330, 1, none⟩ = some (.int .i64 0) := (blk_cell BK330.out 1).trans rfl; have hcz8_2 : w7.cell? ⟨gb330, 2, none⟩ = some (.slice none 0 0) := (blk_cell BK330.out 2).trans rfl; have hfz8_0 := blk_frozen BK330.out 0; have hfz8_1 := blk_frozen BK330.out 1; have hfz8_2 := blk_frozen BK330.out 2) | ((with_reducible refine gate_callee (f := 93) rfl ?_); refine goesL_ (some 14) rfl rfl Try.func93 (by kernel_rfl) rfl #[.agg #[.int .i64 ((rd_T57 l0 x8_1).f0), .int .i64 ((rd_T57 l0 x8_1).f1), .slice A329_2 ((rd_T57 l0 x8_1).f2).length c329_2]] rfl (by (try simp only [List.map_toArray, List.map_cons, List.map_nil]); first | done | rfl | (simp only [List.length_drop, List.length_take]; rfl)) ?_; (with_reducible refine (impl_AlarmsIn.calls k1 ((rd_T57 l0 x8_1).f0) ((rd_T57 l0 x8_1).f1) _ _ ((rd_T57 l0 x8_1).f2) t331 _ ?side1 ?side2 A5.out).mono ?_); (case side1 => exact Kd.C_below HR329_2.out (by repeat (first | (with_reducible first | exact HB.out | apply below_alloc | apply pw_below_drewN | apply below_drew1 | refine below_set ?_ GE330.out) | exact HB.out))); (case side2 => exact HC329_2.out); rintro e w9 ⟨v332, rfl, ho0, hb⟩; refine ⟨_, rfl, ?_⟩; obtain ⟨gbz332, hz332⟩ := Kd.S_name ho0; have n0_ := Aside0.mk (Kd.S_below (Kd.S_ltz hz332 (by (with_reducible repeat (first | apply Kd.S_alloc | apply Kd.S_drewN | apply Kd.S_drew)); exact (Kd.S_mono (Kd.S_far (p := ⟨gb330, 2, none⟩) (Kd.S_far (p := ⟨gb330, 1, none⟩) (Kd.S_far (p := ⟨gb330, 0, none⟩) (Kd.S_types HO_3.out BK330.out (by decide)) (fun _ hk => hk.2) (.int .i64 ((rd_T57 l0 x8_1).f0))) (fun _ hk => hk.2) (.int .i64 ((rd_T57 l0 x8_1).f1))) (fun _ hk => hk.2) (.slice A329_2 ((rd_T57 l0 x8_1).f2).length c329_2)) (fun _ h_ => h_.1)))) hb); have n1_ := Aside0.mk (Kd.S_lower (Kd.S_gez hz332 ho0) (below_size (by repeat (first | (with_reducible first | exact HB.out | apply below_alloc | apply pw_below_drewN | apply below_drew1 | refine below_set ?_ GE330.out) | exact HB.out)))); have n2_ := Aside0.mk (blk_below (g := gb330) (o := .cells #[.int .i64 ((rd_T57 l0 x8_1).f0), .int .i64 ((rd_T57 l0 x8_1).f1), .slice A329_2 ((rd_T57 l0 x8_1).f2).length c329_2] 57 (0, 0)) (by (with_reducible repeat (first | refine blk_drewN ?_ _ | refine blk_drew ?_ | refine blk_alloc ?_ _)); refine blk_put (cs := #[.int .i64 ((rd_T57 l0 x8_1).f0), .int .i64 ((rd_T57 l0 x8_1).f1), .slice none 0 0]) ?_ 2 _ rfl; (with_reducible repeat (first | refine blk_drewN ?_ _ | refine blk_drew ?_ | refine blk_alloc ?_ _)); refine blk_put (cs := #[.int .i64 ((rd_T57 l0 x8_1).f0), .int .i64 0, .slice none 0 0]) ?_ 1 _ rfl; (with_reducible repeat (first | refine blk_drewN ?_ _ | refine blk_drew ?_ | refine blk_alloc ?_ _)); refine blk_put (cs := #[.int .i64 0, .int .i64 0, .slice none 0 0]) ?_ 0 _ rfl; (with_reducible repeat (first | refine blk_drewN ?_ _ | refine blk_drew ?_ | refine blk_alloc ?_ _)); exact BK330.out) hb); have n3_ := Aside0.mk (below_step (by repeat (first | (with_reducible first | exact HB.out | apply below_alloc | apply pw_below_drewN | apply below_drew1 | refine below_set ?_ GE330.out) | exact HB.out)) hb); clear HO_3; clear BK330; clear HB; have HO_3 := n0_; have HO333 := n1_; have BK330 := n2_; have HB := n3_; clear n0_ n1_ n2_ n3_; (try clear hb); (try clear hb2); (try clear hk); (try clear hi); (try clear ho0); obtain ⟨Ao11, co11, eo11⟩ := Kd.S_slice HO333.out; subst eo11; obtain ⟨PXP12, hPXP12, hPlP12⟩ := Kd.S_fp ((Kd.S_mono HO333.out (fun k_ hk => (⟨hk, fun ez_ => Nat.lt_irrefl _ (Nat.lt_of_lt_of_le ((Kd.S_R HO_3.out).1 _ ez_.symm).2 hk.2)⟩ : _ ∧ some k_ ≠ (u3 : Value).ownBlock))))) | ((with_reducible refine gate_builtin (b := .append) (xs := #[.tmp 12, .tmp 14]) rfl ?_); at_builtin; refine Kd.S_append_rows k43 (w0 := w) w.heap.size rfl (.tmp 12) (.tmp 14) 44 43 (.agg #[(.slice none 0 0), (.int .i64 0), (.int .i64 0), (.string ⟨#[]⟩)]) 56 rfl Try.underlying44 info43 rfl (by decide) (by omega) u3 x3_1 t331 _ _ _ (fun _ => True) PXP12 rfl rfl ?aR (fun k_ hk_ => ⟨trivial, (hPlP12 k_ hk_).1.2⟩) ?aF ?aO ?aB ?aS ?aL ?_; (case aR => exact hPXP12); (case aB => exact (by repeat (first | (with_reducible first | exact HB.out | apply below_alloc | apply pw_below_drewN | apply below_drew1 | refine below_set ?_ GE330.out) | exact HB.out))); (case aF => exact (fun _ _ => trivial)); (case aO => exact (by (with_reducible repeat (first | apply Kd.S_alloc | apply Kd.S_drewN | apply Kd.S_drew)); exact Kd.S_mono HO_3.out (fun k_ hk => ⟨trivial, fun e_ => (fun ez_ => Nat.lt_irrefl _ (Nat.lt_of_lt_of_le hk.2 (hPlP12 _ ez_).1.1.2)) e_⟩))); (case aS => exact (below_size (by repeat (first | (with_reducible first | exact HB.out | apply below_alloc | apply pw_below_drewN | apply below_drew1 | refine below_set ?_ GE330.out) | exact HB.out)))); (case aL => have := LMc6.out; omega); intro v335 w10 ho hb hg hat; rw [← Ny334.out] at ho; have n0_ := Aside0.mk (blk_grown (g := gb330) (o := .cells #[.int .i64 ((rd_T57 l0 x8_1).f0), .int .i64 ((rd_T57 l0 x8_1).f1), .slice A329_2 ((rd_T57 l0 x8_1).f2).length c329_2] 57 (0, 0)) (by (with_reducible repeat (first | refine blk_drewN ?_ _ | refine blk_drew ?_ | refine blk_alloc ?_ _)); exact BK330.out) hg (Kd.S_ne HO_3.out BK330.out (by decide))); have n1_ := Aside0.mk (hb); have n2_ := Aside0.mk (ho); clear BK330; clear HB; clear HO_3; clear HO333; have BK330 := n0_; have HB := n1_; have HO336 := n2_; clear n0_ n1_ n2_; clear ho hb hg hat))
       go_roundg k1
       case measure => have := HK1.out; omega
       case rel => exact ⟨(y334), (wrap64 (x8_1 + 1)), (by first | rfl | (simp; done) | (simp [*]; done)), H', ⟨by have := HK1.out; omega⟩, ⟨by (with_reducible repeat (first | apply Kd.S_alloc | apply Kd.S_drewN | apply Kd.S_drew)); exact HO336.out⟩, ⟨by repeat (first | (with_reducible first | exact HB.out | apply below_alloc | apply pw_below_drewN | apply below_drew1 | refine below_set ?_ GE330.out) | exact HB.out)⟩⟩
      ·
       rw [if_neg c6] at H
       exact absurd H (by simp)
     ·
      rw [if_neg c4] at H
      exact absurd H (by simp)
    ·
     rw [if_neg c3] at H
     exact absurd H (by simp)
   ·
    rw [if_neg c2] at H
    have c2b0 : decide (x8_1 < (l0.length : Int)) = false := decide_eq_false c2
    clear c2
    replace H := Option.bind_eq_some_iff.mp H
    obtain ⟨t337, A130, H⟩ := H
    replace H : (some t337) = some r := H
    have A13 := Aside0.mk A130
    clear A130
    obtain rfl := Option.some.inj H
    obtain ⟨Ao14, co14, eo14⟩ := Kd.S_slice HO_3.out
    subst eo14
    obtain ⟨PXP15, hPXP15, hPlP15⟩ := Kd.S_fp HO_3.out
    go_wp2_with (first | ((with_reducible refine gate_callee (f := 94) rfl ?_); refine goesL_ (some 18) rfl rfl Try.func94 (by kernel_rfl) rfl #[.slice Ao14 x3_1.length co14] rfl (by (try simp only [List.map_toArray, List.map_cons, List.map_nil]); first | done | rfl | (simp only [List.length_drop, List.length_take]; rfl)) ?_; (with_reducible refine (impl_byLabels.calls k1 PXP15 (.slice Ao14 x3_1.length co14) x3_1 t337 w _ ?side1 ?side2 A13.out).mono ?_); (case side1 => repeat (first | (with_reducible first | exact HB.out | apply below_alloc | apply pw_below_drewN | apply below_drew1) | exact HB.out)); (case side2 => exact hPXP15); rintro e w16 ⟨v338, rfl, ho0, hb, hkp⟩; refine ⟨_, rfl, ?_⟩; have n0_ := Aside0.mk (Kd.S_mono (ok' := fun k_ => True) ho0 (fun k_ hk_ => trivial)); have n1_ := Aside0.mk (hb); clear HB; clear HO_3; have HO339 := n0_; have HB := n1_; clear n0_ n1_; (try clear hb); (try clear hkp); (try clear ho0)))
    go_ret
    exact ⟨_, by first | rfl | (simp [errW_none, errW_some] <;> rfl) | (simp [*, errW_none, errW_some] <;> rfl), by (with_reducible repeat (first | apply Kd.S_alloc | apply Kd.S_drewN | apply Kd.S_drew)); exact HO339.out, by repeat (first | (with_reducible first | exact HB.out | apply below_alloc | apply pw_below_drewN | apply below_drew1) | exact HB.out)⟩

end Go.Proofs.Yticgekgojgkbgaa.Print
end
section
namespace Go.Proofs.Yticgekgojgkbgaa.Print
open Go.RowKit Go.Proofs.YticgekgojgkbgaaV.PrintWords Go.Proofs.YticgekgojgkbgaaV.PrintLast Go.Proofs.YticgekgojgkbgaaV.PrintMore
attribute [local go_sem] max2_int min2_int max_two min_two max_three min_three max_four min_four   -- for this text's walks alone
set_option linter.unusedVariables false
set_option linter.unusedSimpArgs false

/-! ### laws_heldLabelS: function 83 -/
def laws_heldLabelS.l0 : Nat → List (S88) → Int → Int → Option (Int)
 | 0, _, _, _ => none
 | k + 1, x0, x1, x5 => if x5 < (x0.length : Int) then (if 0 ≤ x5 then ((laws_markText.f k x1).bind fun t341 => (if ((rd_T88 x0 x5).f0).toList = t341.toList then ((laws_markText.f k (wrap64 (x1 + 1))).bind fun t343 => (if ((rd_T88 x0 x5).f1).toList = t343.toList then (laws_heldLabelS.l0 k x0 (wrap64 ((wrap64 (x1 + 1)) + 1)) (wrap64 (x5 + 1))) else (none))) else (none))) else (none)) else (some x1)
def laws_heldLabelS.f (k : Nat) (l0 : List (S88)) (a1 : Int) : Option (Int) := laws_heldLabelS.l0 k l0 a1 0
theorem laws_heldLabelS.mono_l : ∀ k, (∀ y0 y1 y2, LeO (laws_heldLabelS.l0 k y0 y1 y2) (laws_heldLabelS.l0 (k + 1) y0 y1 y2))
 | 0 => fun _ _ _ r h => by simp [laws_heldLabelS.l0] at h
 | k + 1 => by
  have ih0 := laws_heldLabelS.mono_l k
  ·
   intro y0 y1 y2
   unfold laws_heldLabelS.l0
   repeat' first
   | (with_reducible exact ih0 _ _ _)
   | (with_reducible exact laws_markText.mono _ _)
   | (with_reducible exact LeO.refl _)
   | (with_reducible exact LeO.none _)
   | (with_reducible refine LeO.ite ?_ ?_)
   | (with_reducible refine LeO.bind ?_ (fun _ => ?_))
   | exact ih0 _ _ _
   | exact laws_markText.mono _ _
   | exact LeO.none _
   | refine LeO.ite ?_ ?_
   | refine LeO.bind ?_ (fun _ => ?_)
theorem laws_heldLabelS.mono : ∀ a0 a1 k, LeO (laws_heldLabelS.f k a0 a1) (laws_heldLabelS.f (k + 1) a0 a1) := by
 intro a0 a1 k
 have ih0 := laws_heldLabelS.mono_l k
 unfold laws_heldLabelS.f
 repeat' first
   | (with_reducible exact ih0 _ _ _)
   | (with_reducible exact laws_markText.mono _ _)
   | (with_reducible exact LeO.refl _)
   | (with_reducible exact LeO.none _)
   | (with_reducible refine LeO.ite ?_ ?_)
   | (with_reducible refine LeO.bind ?_ (fun _ => ?_))
   | exact ih0 _ _ _
   | exact laws_markText.mono _ _
   | exact LeO.none _
   | refine LeO.ite ?_ ?_
   | refine LeO.bind ?_ (fun _ => ?_)
def laws_heldLabelS.T4 : Bool × List (List Nat × List Nat) := (true, [([], []), ([], []), ([0, 1], [0, 1]), ([2], [2]), ([3], [3]), ([], []), ([5], [5]), ([4, 6], [4, 6])])
def laws_heldLabelS.B4 : List Nat := [0, 0, 3, 7, 15, 0, 32, 127]
theorem laws_heldLabelS.tab4 : rtab .any (opsOf Try.f83 4) = laws_heldLabelS.T4 := by kernel_rfl
theorem laws_heldLabelS.bits4 : waitsOk laws_heldLabelS.T4.2 laws_heldLabelS.B4 = true := by kernel_rfl
def laws_heldLabelS.T7 : Bool × List (List Nat × List Nat) := (true, [([], []), ([], []), ([0, 1], [0, 1]), ([2], [2]), ([3], [3]), ([], []), ([5], [5]), ([4, 6], [4, 6])])
def laws_heldLabelS.B7 : List Nat := [0, 0, 3, 7, 15, 0, 32, 127]
theorem laws_heldLabelS.tab7 : rtab .any (opsOf Try.f83 7) = laws_heldLabelS.T7 := by kernel_rfl
theorem laws_heldLabelS.bits7 : waitsOk laws_heldLabelS.T7.2 laws_heldLabelS.B7 = true := by kernel_rfl
set_option maxHeartbeats 8000000 in
set_option maxRecDepth 100000 in
theorem laws_heldLabelS.calls (k : Nat) (A0 : Option Addr) (c0 : Nat) (l0 : List (S88)) (a1 : Int) (r : Int) (w : World) (hr0 : Kd.C k88 w A0 l0.length l0) (hc0 : l0.length ≤ c0) (h : laws_heldLabelS.f k l0 a1 = some r) :
  Calls Try.prog 83 #[.slice A0 l0.length c0, .int .i64 a1] w fun e w' => e = .returned (.int .i64 r) ∧ Below w.heap.size w w' := by
 have HR0 := Aside0.mk hr0
 have HC0 := Aside0.mk hc0
 clear hr0 hc0
 have HB := Aside0.mk (Below.refl w.heap.size w)
 have H : (laws_heldLabelS.l0 k l0 a1 0) = some r := h
 clear h
 have H' := Aside0.mk H
 clear H
 go_enter Try.func83, Try.ntmps83
 go_wp2
 go_loopg [1, 5] k (fun kq v1 v5 w' => ∃ (x1_1 : Int) (x5_1 : Int), v1 = .int .i64 x1_1 ∧ v5 = .int .i64 x5_1 ∧ Aside0 (laws_heldLabelS.l0 kq l0 x1_1 x5_1 = some r) ∧ Aside0 (kq ≤ k) ∧ Aside0 (Below w.heap.size w w'))
 case atStart => exact ⟨(a1), (0), (by first | rfl | (simp; done) | (simp [*]; done)), (by first | rfl | (simp; done) | (simp [*]; done)), H', ⟨Nat.le_refl _⟩, ⟨by repeat (first | (with_reducible first | exact HB.out | apply below_alloc | apply pw_below_drewN | apply below_drew1) | exact HB.out)⟩⟩
 case round =>
  clear H'
  try clear p2
  obtain ⟨x1_1, x5_1, rfl, rfl, HA, HK1, HB⟩ := hrel
  cases gk with
  | zero => exact absurd HA.out (by simp [laws_heldLabelS.l0])
  | succ k1 =>
   have H := HA.out
   clear HA
   simp only [laws_heldLabelS.l0] at H
   by_cases c3 : x5_1 < (l0.length : Int)
   ·
    rw [if_pos c3] at H
    have c3b0 : decide (x5_1 < (l0.length : Int)) = true := decide_eq_true c3
    clear c3
    by_cases c4 : 0 ≤ x5_1
    ·
     rw [if_pos c4] at H
     have c4b0 : decide (0 ≤ x5_1) = true := decide_eq_true c4
     clear c4
     replace H := Option.bind_eq_some_iff.mp H
     obtain ⟨t341, A50, H⟩ := H
     replace H : (if ((rd_T88 l0 x5_1).f0).toList = t341.toList then ((laws_markText.f k1 (wrap64 (x1_1 + 1))).bind fun t343 => (if ((rd_T88 l0 x5_1).f1).toList = t343.toList then (laws_heldLabelS.l0 k1 l0 (wrap64 ((wrap64 (x1_1 + 1)) + 1)) (wrap64 (x5_1 + 1))) else (none))) else (none)) = some r := H
     have A5 := Aside0.mk A50
     clear A50
     by_cases c6 : ((rd_T88 l0 x5_1).f0).toList = t341.toList
     ·
      rw [if_pos c6] at H
      have c6b0 : (((rd_T88 l0 x5_1).f0).toList == t341.toList) = true := beq_iff_eq.mpr c6
      have c6b1 : (((rd_T88 l0 x5_1).f0).toList != t341.toList) = false := bne_eq_false_iff_eq.mpr c6
      clear c6
      replace H := Option.bind_eq_some_iff.mp H
      obtain ⟨t343, A70, H⟩ := H
      replace H : (if ((rd_T88 l0 x5_1).f1).toList = t343.toList then (laws_heldLabelS.l0 k1 l0 (wrap64 ((wrap64 (x1_1 + 1)) + 1)) (wrap64 (x5_1 + 1))) else (none)) = some r := H
      have A7 := Aside0.mk A70
      clear A70
      by_cases c8 : ((rd_T88 l0 x5_1).f1).toList = t343.toList
      ·
       rw [if_pos c8] at H
       have c8b0 : (((rd_T88 l0 x5_1).f1).toList == t343.toList) = true := beq_iff_eq.mpr c8
       have c8b1 : (((rd_T88 l0 x5_1).f1).toList != t343.toList) = false := bne_eq_false_iff_eq.mpr c8
       clear c8
       have H' := Aside0.mk H
       clear H
       try go_wp2
       have n0_ := Aside0.mk (below_drew1 HB.out)
       clear HB
       have HB := n0_
       clear n0_
       have p340 : 0 ≤ (x5_1 : Int) := of_decide_eq_true (by first | (with_reducible assumption) | assumption)
       have q340 : x5_1 < (l0.length : Int) := of_decide_eq_true (by first | (with_reducible assumption) | assumption)
       obtain ⟨ad340, e340, hx340_0, hx340_1⟩ := at_T88 HR0.out x5_1 p340 q340
       have hw340_1 := hx340_1
       have hw340_0 := hx340_0
       cases e340
       replace hx340_0 := (HB.out.cell (World.block_lt_of_cell? w _ hx340_0)).trans hx340_0
       replace hx340_1 := (HB.out.cell (World.block_lt_of_cell? w _ hx340_1)).trans hx340_1
       replace p340 := eq_true p340
       replace q340 := eq_true q340
       refine start_ (n := 8) (S := fun w' => w'.cell? (ad340.add ((x5_1).toNat * 2)) = some (.string ((rd_T88 l0 x5_1).f0)) ∧ w'.cell? ⟨(ad340.add ((x5_1).toNat * 2)).block, (ad340.add ((x5_1).toNat * 2)).off + 1, none⟩ = some (.string ((rd_T88 l0 x5_1).f1))) (ds := []) #[false, false, false, false, false, false, false, false] (by kernel_rfl) rfl rfl ⟨((HB.out.cell (World.block_lt_of_cell? w _ hw340_0)).trans hw340_0), ((HB.out.cell (World.block_lt_of_cell? w _ hw340_1)).trans hw340_1)⟩ (fun hHeld => ?_); refine with_tabW laws_heldLabelS.tab4 laws_heldLabelS.bits4 (fun HT_ HW_ => ?_)
       generalize wr.drew = w9 at HB hx340_0 hx340_1 hHeld ⊢
       refine pure_ (i := 0) (N := some 12) (v := ?_) (a' := ?_) #[true, false, false, false, false, false, false, false] rfl rfl (any_of HT_.out (by kernel_rfl)) (fun _ _ _ h => h) (Or.inl ⟨by rfl, ?_⟩) ?_ ?_
       rotate_left
       ·
        intro w'
        go_simp
        with_reducible rfl
       rotate_left
       ·
        simp only [Act.put, List.setIfInBounds_toArray, List.set_cons_zero, List.set_cons_succ, i64_w, i32_w]
        rfl
       refine pure_ (i := 1) (N := some 13) (v := ?_) (a' := ?_) #[true, true, false, false, false, false, false, false] rfl rfl (any_of HT_.out (by kernel_rfl)) (fun _ _ _ h => h) (Or.inl ⟨by rfl, ?_⟩) ?_ ?_
       rotate_left
       ·
        intro w'
        go_simp
        with_reducible rfl
       rotate_left
       ·
        simp only [Act.put, List.setIfInBounds_toArray, List.set_cons_zero, List.set_cons_succ, i64_w, i32_w]
        rfl
       refine pure_ (i := 2) (N := some 14) (v := ?_) (a' := ?_) #[true, true, true, false, false, false, false, false] rfl rfl (any_of HT_.out (by kernel_rfl)) (fun _ _ _ h => h) (Or.inl ⟨by rfl, ?_⟩) ?_ ?_
       rotate_left
       ·
        intro w'
        go_simp
        with_reducible rfl
       rotate_left
       ·
        simp only [Act.put, List.setIfInBounds_toArray, List.set_cons_zero, List.set_cons_succ, i64_w, i32_w]
        rfl
       refine pure_ (i := 3) (N := some 15) (v := ?_) (a' := ?_) #[true, true, true, true, false, false, false, false] rfl rfl (any_of HT_.out (by kernel_rfl)) (fun _ _ _ h => h) (Or.inl ⟨by rfl, ?_⟩) ?_ ?_
       rotate_left
       ·
        intro w'
        go_simp
        with_reducible rfl
       rotate_left
       ·
        simp only [Act.put, List.setIfInBounds_toArray, List.set_cons_zero, List.set_cons_succ, i64_w, i32_w]
        rfl
       refine pure_ (i := 5) (N := some 17) (v := ?_) (a' := ?_) #[true, true, true, true, false, true, false, false] rfl rfl (any_of HT_.out (by kernel_rfl)) (fun _ _ _ h => h) (Or.inl ⟨by rfl, ?_⟩) ?_ ?_
       rotate_left
       ·
        intro w'
        go_simp
        with_reducible rfl
       rotate_left
       ·
        simp only [Act.put, List.setIfInBounds_toArray, List.set_cons_zero, List.set_cons_succ, i64_w, i32_w]
        rfl
       refine take_ (i := 4) (N := some 16) (v := ?_) (a' := ?_) #[true, true, true, true, true, true, false, false] rfl rfl (take_ofW HT_.out HW_.out (by kernel_rfl)) (fun _ _ _ h => h) (Or.inl ⟨by rfl, ?_⟩) hHeld ?_ ?_
       rotate_left
       ·
        rintro w' ⟨s0, s1⟩
        go_simp
        with_reducible rfl
       rotate_left
       ·
        simp only [Act.put, List.setIfInBounds_toArray, List.set_cons_zero, List.set_cons_succ, i64_w, i32_w]
        rfl
       refine one_ (i := 6) (N := some 18) #[true, true, true, true, true, true, true, false] rfl rfl (one_of HT_.out (by kernel_rfl)) (by decide) (fun K hK => ?_)
       refine goes_ Try.func82 (by kernel_rfl) rfl #[.int .i64 x1_1] (by rfl) rfl rfl (by (try simp only [List.map_toArray, List.map_cons, List.map_nil]); first | done | rfl | (simp only [List.length_drop, List.length_take]; rfl)) ?_
       with_reducible refine (laws_markText.calls k1 x1_1 t341 _ A5.out).mono ?_
       rintro e w10 ⟨rfl, hb⟩
       refine ⟨_, rfl, ?_⟩
       have n0_ := Aside0.mk (below_step (by repeat (first | (with_reducible first | exact HB.out | apply below_alloc | apply pw_below_drewN | apply below_drew1) | exact HB.out)) hb)
       clear HB
       have HB := n0_
       clear n0_
       (try clear hb)
       (try clear hb2)
       (try clear hk)
       (try clear hi)
       refine hK.out _ _ ⟨((HB.out.cell (World.block_lt_of_cell? w _ hw340_0)).trans hw340_0), ((HB.out.cell (World.block_lt_of_cell? w _ hw340_1)).trans hw340_1)⟩ (fun hHeld => ?_)
       clear hK K
       refine norm_ (a' := ?_) ?_ ?_
       rotate_left
       ·
        show Act.put _ (some 18) _ = _
        simp only [Act.put, List.setIfInBounds_toArray, List.set_cons_zero, List.set_cons_succ, i64_w, i32_w]
        rfl
       refine pure_ (i := 7) (N := some 19) (v := ?_) (a' := ?_) #[true, true, true, true, true, true, true, true] rfl rfl (any_of HT_.out (by kernel_rfl)) (fun _ _ _ h => h) (Or.inl ⟨by rfl, ?_⟩) ?_ ?_
       rotate_left
       ·
        intro w'
        go_simp
        with_reducible rfl
       rotate_left
       ·
        simp only [Act.put, List.setIfInBounds_toArray, List.set_cons_zero, List.set_cons_succ, i64_w, i32_w]
        rfl
       refine done_ (done_of HT_.out (by kernel_rfl)) ?_
       try go_wp2
       have n0_ := Aside0.mk (below_drew1 HB.out)
       clear HB
       have HB := n0_
       clear n0_
       have p342 : 0 ≤ (x5_1 : Int) := of_decide_eq_true (by first | (with_reducible assumption) | assumption)
       have q342 : x5_1 < (l0.length : Int) := of_decide_eq_true (by first | (with_reducible assumption) | assumption)
       obtain ⟨ad342, e342, hx342_0, hx342_1⟩ := at_T88 HR0.out x5_1 p342 q342
       have hw342_1 := hx342_1
       have hw342_0 := hx342_0
       obtain rfl : ad340 = ad342 := (by injection e342)
       replace hx342_0 := (HB.out.cell (World.block_lt_of_cell? w _ hx342_0)).trans hx342_0
       replace hx342_1 := (HB.out.cell (World.block_lt_of_cell? w _ hx342_1)).trans hx342_1
       replace p342 := eq_true p342
       replace q342 := eq_true q342
       refine start_ (n := 8) (S := fun w' => w'.cell? (ad340.add ((x5_1).toNat * 2)) = some (.string ((rd_T88 l0 x5_1).f0)) ∧ w'.cell? ⟨(ad340.add ((x5_1).toNat * 2)).block, (ad340.add ((x5_1).toNat * 2)).off + 1, none⟩ = some (.string ((rd_T88 l0 x5_1).f1))) (ds := []) #[false, false, false, false, false, false, false, false] (by kernel_rfl) rfl rfl ⟨((HB.out.cell (World.block_lt_of_cell? w _ hw342_0)).trans hw342_0), ((HB.out.cell (World.block_lt_of_cell? w _ hw342_1)).trans hw342_1)⟩ (fun hHeld => ?_); refine with_tabW laws_heldLabelS.tab7 laws_heldLabelS.bits7 (fun HT_ HW_ => ?_)
       generalize w10.drew = w11 at HB hx342_0 hx342_1 hHeld ⊢
       refine pure_ (i := 0) (N := some 22) (v := ?_) (a' := ?_) #[true, false, false, false, false, false, false, false] rfl rfl (any_of HT_.out (by kernel_rfl)) (fun _ _ _ h => h) (Or.inl ⟨by rfl, ?_⟩) ?_ ?_
       rotate_left
       ·
        intro w'
        go_simp
        with_reducible rfl
       rotate_left
       ·
        simp only [Act.put, List.setIfInBounds_toArray, List.set_cons_zero, List.set_cons_succ, i64_w, i32_w]
        rfl
       refine pure_ (i := 1) (N := some 23) (v := ?_) (a' := ?_) #[true, true, false, false, false, false, false, false] rfl rfl (any_of HT_.out (by kernel_rfl)) (fun _ _ _ h => h) (Or.inl ⟨by rfl, ?_⟩) ?_ ?_
       rotate_left
       ·
        intro w'
        go_simp
        with_reducible rfl
       rotate_left
       ·
        simp only [Act.put, List.setIfInBounds_toArray, List.set_cons_zero, List.set_cons_succ, i64_w, i32_w]
        rfl
       refine pure_ (i := 2) (N := some 24) (v := ?_) (a' := ?_) #[true, true, true, false, false, false, false, false] rfl rfl (any_of HT_.out (by kernel_rfl)) (fun _ _ _ h => h) (Or.inl ⟨by rfl, ?_⟩) ?_ ?_
       rotate_left
       ·
        intro w'
        go_simp
        with_reducible rfl
       rotate_left
       ·
        simp only [Act.put, List.setIfInBounds_toArray, List.set_cons_zero, List.set_cons_succ, i64_w, i32_w]
        rfl
       refine pure_ (i := 3) (N := some 25) (v := ?_) (a' := ?_) #[true, true, true, true, false, false, false, false] rfl rfl (any_of HT_.out (by kernel_rfl)) (fun _ _ _ h => h) (Or.inl ⟨by rfl, ?_⟩) ?_ ?_
       rotate_left
       ·
        intro w'
        go_simp
        with_reducible rfl
       rotate_left
       ·
        simp only [Act.put, List.setIfInBounds_toArray, List.set_cons_zero, List.set_cons_succ, i64_w, i32_w]
        rfl
       refine pure_ (i := 5) (N := some 27) (v := ?_) (a' := ?_) #[true, true, true, true, false, true, false, false] rfl rfl (any_of HT_.out (by kernel_rfl)) (fun _ _ _ h => h) (Or.inl ⟨by rfl, ?_⟩) ?_ ?_
       rotate_left
       ·
        intro w'
        go_simp
        with_reducible rfl
       rotate_left
       ·
        simp only [Act.put, List.setIfInBounds_toArray, List.set_cons_zero, List.set_cons_succ, i64_w, i32_w]
        rfl
       refine take_ (i := 4) (N := some 26) (v := ?_) (a' := ?_) #[true, true, true, true, true, true, false, false] rfl rfl (take_ofW HT_.out HW_.out (by kernel_rfl)) (fun _ _ _ h => h) (Or.inl ⟨by rfl, ?_⟩) hHeld ?_ ?_
       rotate_left
       ·
        rintro w' ⟨s0, s1⟩
        go_simp
        with_reducible rfl
       rotate_left
       ·
        simp only [Act.put, List.setIfInBounds_toArray, List.set_cons_zero, List.set_cons_succ, i64_w, i32_w]
        rfl
       refine one_ (i := 6) (N := some 28) #[true, true, true, true, true, true, true, false] rfl rfl (one_of HT_.out (by kernel_rfl)) (by decide) (fun K hK => ?_)
       refine goes_ Try.func82 (by kernel_rfl) rfl #[.int .i64 (wrap64 (x1_1 + 1))] (by rfl) rfl rfl (by (try simp only [List.map_toArray, List.map_cons, List.map_nil]); first | done | rfl | (simp only [List.length_drop, List.length_take]; rfl)) ?_
       with_reducible refine (laws_markText.calls k1 (wrap64 (x1_1 + 1)) t343 _ A7.out).mono ?_
       rintro e w12 ⟨rfl, hb⟩
       refine ⟨_, rfl, ?_⟩
       have n0_ := Aside0.mk (below_step (by repeat (first | (with_reducible first | exact HB.out | apply below_alloc | apply pw_below_drewN | apply below_drew1) | exact HB.out)) hb)
       clear HB
       have HB := n0_
       clear n0_
       (try clear hb)
       (try clear hb2)
       (try clear hk)
       (try clear hi)
       refine hK.out _ _ ⟨((HB.out.cell (World.block_lt_of_cell? w _ hw342_0)).trans hw342_0), ((HB.out.cell (World.block_lt_of_cell? w _ hw342_1)).trans hw342_1)⟩ (fun hHeld => ?_)
       clear hK K
       refine norm_ (a' := ?_) ?_ ?_
       rotate_left
       ·
        show Act.put _ (some 28) _ = _
        simp only [Act.put, List.setIfInBounds_toArray, List.set_cons_zero, List.set_cons_succ, i64_w, i32_w]
        rfl
       refine pure_ (i := 7) (N := some 29) (v := ?_) (a' := ?_) #[true, true, true, true, true, true, true, true] rfl rfl (any_of HT_.out (by kernel_rfl)) (fun _ _ _ h => h) (Or.inl ⟨by rfl, ?_⟩) ?_ ?_
       rotate_left
       ·
        intro w'
        go_simp
        with_reducible rfl
       rotate_left
       ·
        simp only [Act.put, List.setIfInBounds_toArray, List.set_cons_zero, List.set_cons_succ, i64_w, i32_w]
        rfl
       refine done_ (done_of HT_.out (by kernel_rfl)) ?_
       try go_wp2
       go_roundg k1
       case measure => have := HK1.out; omega
       case rel => exact ⟨(wrap64 ((wrap64 (x1_1 + 1)) + 1)), (wrap64 (x5_1 + 1)), (by first | rfl | (simp; done) | (simp [*]; done)), (by first | rfl | (simp; done) | (simp [*]; done)), H', ⟨by have := HK1.out; omega⟩, ⟨by repeat (first | (with_reducible first | exact HB.out | apply below_alloc | apply pw_below_drewN | apply below_drew1) | exact HB.out)⟩⟩
      ·
       rw [if_neg c8] at H
       exact absurd H (by simp)
     ·
      rw [if_neg c6] at H
      exact absurd H (by simp)
    ·
     rw [if_neg c4] at H
     exact absurd H (by simp)
   ·
    rw [if_neg c3] at H
    have c3b0 : decide (x5_1 < (l0.length : Int)) = false := decide_eq_false c3
    clear c3
    obtain rfl := Option.some.inj H
    go_wp2
    go_ret
    exact ⟨by first | rfl | (simp [errW_none, errW_some] <;> rfl) | (simp [*, errW_none, errW_some] <;> rfl), by repeat (first | (with_reducible first | exact HB.out | apply below_alloc | apply pw_below_drewN | apply below_drew1) | exact HB.out)⟩

end Go.Proofs.Yticgekgojgkbgaa.Print
end
section
namespace Go.Proofs.Yticgekgojgkbgaa.Print
open Go.RowKit Go.Proofs.YticgekgojgkbgaaV.PrintWords Go.Proofs.YticgekgojgkbgaaV.PrintLast Go.Proofs.YticgekgojgkbgaaV.PrintMore
attribute [local go_sem] max2_int min2_int max_two min_two max_three min_three max_four min_four   -- for this text's walks alone
set_option linter.unusedVariables false
set_option linter.unusedSimpArgs false

/-! ### laws_heldAlarmS: function 54 -/
def laws_heldAlarmS.l0 : Nat → List (S43) → Int → Int → Option (Int)
 | 0, _, _, _ => none
 | k + 1, x0, x1, x5 => if x5 < (x0.length : Int) then (if 0 ≤ x5 then ((laws_heldLabelS.f k ((rd_T43 x0 x5).f0) x1).bind fun t345 => (if t345 < 0 then (none) else (if ((rd_T43 x0 x5).f1) = t345 then (if ((rd_T43 x0 x5).f2) = (wrap64 (t345 + 1)) then ((laws_markText.f k (wrap64 ((wrap64 (t345 + 1)) + 1))).bind fun t349 => (if ((rd_T43 x0 x5).f3).toList = t349.toList then (laws_heldAlarmS.l0 k x0 (wrap64 ((wrap64 ((wrap64 (t345 + 1)) + 1)) + 1)) (wrap64 (x5 + 1))) else (none))) else (none)) else (none)))) else (none)) else (some x1)
def laws_heldAlarmS.f (k : Nat) (l0 : List (S43)) (a1 : Int) : Option (Int) := laws_heldAlarmS.l0 k l0 a1 0
theorem laws_heldAlarmS.mono_l : ∀ k, (∀ y0 y1 y2, LeO (laws_heldAlarmS.l0 k y0 y1 y2) (laws_heldAlarmS.l0 (k + 1) y0 y1 y2))
 | 0 => fun _ _ _ r h => by simp [laws_heldAlarmS.l0] at h
 | k + 1 => by
  have ih0 := laws_heldAlarmS.mono_l k
  ·
   intro y0 y1 y2
   unfold laws_heldAlarmS.l0
   repeat' first
   | (with_reducible exact ih0 _ _ _)
   | (with_reducible exact laws_heldLabelS.mono _ _ _)
   | (with_reducible exact laws_markText.mono _ _)
   | (with_reducible exact LeO.refl _)
   | (with_reducible exact LeO.none _)
   | (with_reducible refine LeO.ite ?_ ?_)
   | (with_reducible refine LeO.bind ?_ (fun _ => ?_))
   | exact ih0 _ _ _
   | exact laws_heldLabelS.mono _ _ _
   | exact laws_markText.mono _ _
   | exact LeO.none _
   | refine LeO.ite ?_ ?_
   | refine LeO.bind ?_ (fun _ => ?_)
theorem laws_heldAlarmS.mono : ∀ a0 a1 k, LeO (laws_heldAlarmS.f k a0 a1) (laws_heldAlarmS.f (k + 1) a0 a1) := by
 intro a0 a1 k
 have ih0 := laws_heldAlarmS.mono_l k
 unfold laws_heldAlarmS.f
 repeat' first
   | (with_reducible exact ih0 _ _ _)
   | (with_reducible exact laws_heldLabelS.mono _ _ _)
   | (with_reducible exact laws_markText.mono _ _)
   | (with_reducible exact LeO.refl _)
   | (with_reducible exact LeO.none _)
   | (with_reducible refine LeO.ite ?_ ?_)
   | (with_reducible refine LeO.bind ?_ (fun _ => ?_))
   | exact ih0 _ _ _
   | exact laws_heldLabelS.mono _ _ _
   | exact laws_markText.mono _ _
   | exact LeO.none _
   | refine LeO.ite ?_ ?_
   | refine LeO.bind ?_ (fun _ => ?_)
def laws_heldAlarmS.T13 : Bool × List (List Nat × List Nat) := (true, [([], []), ([], []), ([0, 1], [0, 1]), ([2], [2]), ([3], [3]), ([], []), ([5], [5]), ([4, 6], [4, 6])])
def laws_heldAlarmS.B13 : List Nat := [0, 0, 3, 7, 15, 0, 32, 127]
theorem laws_heldAlarmS.tab13 : rtab .any (opsOf Try.f54 13) = laws_heldAlarmS.T13 := by kernel_rfl
theorem laws_heldAlarmS.bits13 : waitsOk laws_heldAlarmS.T13.2 laws_heldAlarmS.B13 = true := by kernel_rfl
set_option maxHeartbeats 8000000 in
set_option maxRecDepth 100000 in
theorem laws_heldAlarmS.calls (k : Nat) (A0 : Option Addr) (c0 : Nat) (l0 : List (S43)) (a1 : Int) (r : Int) (w : World) (hr0 : Kd.C k43 w A0 l0.length l0) (hc0 : l0.length ≤ c0) (h : laws_heldAlarmS.f k l0 a1 = some r) :
  Calls Try.prog 54 #[.slice A0 l0.length c0, .int .i64 a1] w fun e w' => e = .returned (.int .i64 r) ∧ Below w.heap.size w w' := by
 have HR0 := Aside0.mk hr0
 have HC0 := Aside0.mk hc0
 clear hr0 hc0
 have HB := Aside0.mk (Below.refl w.heap.size w)
 have H : (laws_heldAlarmS.l0 k l0 a1 0) = some r := h
 clear h
 have H' := Aside0.mk H
 clear H
 go_enter Try.func54, Try.ntmps54
 go_wp2
 go_loopg [1, 5] k (fun kq v1 v5 w' => ∃ (x1_1 : Int) (x5_1 : Int), v1 = .int .i64 x1_1 ∧ v5 = .int .i64 x5_1 ∧ Aside0 (laws_heldAlarmS.l0 kq l0 x1_1 x5_1 = some r) ∧ Aside0 (kq ≤ k) ∧ Aside0 (Below w.heap.size w w'))
 case atStart => exact ⟨(a1), (0), (by first | rfl | (simp; done) | (simp [*]; done)), (by first | rfl | (simp; done) | (simp [*]; done)), H', ⟨Nat.le_refl _⟩, ⟨by repeat (first | (with_reducible first | exact HB.out | apply below_alloc | apply pw_below_drewN | apply below_drew1) | exact HB.out)⟩⟩
 case round =>
  clear H'
  try clear p2
  obtain ⟨x1_1, x5_1, rfl, rfl, HA, HK1, HB⟩ := hrel
  cases gk with
  | zero => exact absurd HA.out (by simp [laws_heldAlarmS.l0])
  | succ k1 =>
   have H := HA.out
   clear HA
   simp only [laws_heldAlarmS.l0] at H
   by_cases c3 : x5_1 < (l0.length : Int)
   ·
    rw [if_pos c3] at H
    have c3b0 : decide (x5_1 < (l0.length : Int)) = true := decide_eq_true c3
    clear c3
    by_cases c4 : 0 ≤ x5_1
    ·
     rw [if_pos c4] at H
     have c4b0 : decide (0 ≤ x5_1) = true := decide_eq_true c4
     clear c4
     replace H := Option.bind_eq_some_iff.mp H
     obtain ⟨t345, A50, H⟩ := H
     replace H : (if t345 < 0 then (none) else (if ((rd_T43 l0 x5_1).f1) = t345 then (if ((rd_T43 l0 x5_1).f2) = (wrap64 (t345 + 1)) then ((laws_markText.f k1 (wrap64 ((wrap64 (t345 + 1)) + 1))).bind fun t349 => (if ((rd_T43 l0 x5_1).f3).toList = t349.toList then (laws_heldAlarmS.l0 k1 l0 (wrap64 ((wrap64 ((wrap64 (t345 + 1)) + 1)) + 1)) (wrap64 (x5_1 + 1))) else (none))) else (none)) else (none))) = some r := H
     have A5 := Aside0.mk A50
     clear A50
     by_cases c6 : t345 < 0
     ·
      rw [if_pos c6] at H
      exact absurd H (by simp)
     ·
      rw [if_neg c6] at H
      have c6b0 : decide (t345 < 0) = false := decide_eq_false c6
      clear c6
      by_cases c7 : ((rd_T43 l0 x5_1).f1) = t345
      ·
       rw [if_pos c7] at H
       have c7b0 : (((rd_T43 l0 x5_1).f1) == t345) = true := beq_iff_eq.mpr c7
       have c7b1 : (((rd_T43 l0 x5_1).f1) != t345) = false := bne_eq_false_iff_eq.mpr c7
       clear c7
       by_cases c8 : ((rd_T43 l0 x5_1).f2) = (wrap64 (t345 + 1))
       ·
        rw [if_pos c8] at H
        have c8b0 : (((rd_T43 l0 x5_1).f2) == (wrap64 (t345 + 1))) = true := beq_iff_eq.mpr c8
        have c8b1 : (((rd_T43 l0 x5_1).f2) != (wrap64 (t345 + 1))) = false := bne_eq_false_iff_eq.mpr c8
        clear c8
        replace H := Option.bind_eq_some_iff.mp H
        obtain ⟨t349, A90, H⟩ := H
        replace H : (if ((rd_T43 l0 x5_1).f3).toList = t349.toList then (laws_heldAlarmS.l0 k1 l0 (wrap64 ((wrap64 ((wrap64 (t345 + 1)) + 1)) + 1)) (wrap64 (x5_1 + 1))) else (none)) = some r := H
        have A9 := Aside0.mk A90
        clear A90
        by_cases c10 : ((rd_T43 l0 x5_1).f3).toList = t349.toList
        ·
         rw [if_pos c10] at H
         have c10b0 : (((rd_T43 l0 x5_1).f3).toList == t349.toList) = true := beq_iff_eq.mpr c10
         have c10b1 : (((rd_T43 l0 x5_1).f3).toList != t349.toList) = false := bne_eq_false_iff_eq.mpr c10
         clear c10
         have H' := Aside0.mk H
         clear H
         have p344 : 0 ≤ (x5_1 : Int) := of_decide_eq_true (by first | (with_reducible assumption) | assumption)
         have q344 : x5_1 < (l0.length : Int) := of_decide_eq_true (by first | (with_reducible assumption) | assumption)
         obtain ⟨ad344, A344_0, c344_0, e344, hx344_0, hx344_1, hx344_2, hx344_3, hl344_0, hi344_0⟩ := at_T43 HR0.out x5_1 p344 q344
         cases e344
         replace hx344_0 := (HB.out.cell (World.block_lt_of_cell? w _ hx344_0)).trans hx344_0
         replace hx344_1 := (HB.out.cell (World.block_lt_of_cell? w _ hx344_1)).trans hx344_1
         replace hx344_2 := (HB.out.cell (World.block_lt_of_cell? w _ hx344_2)).trans hx344_2
         replace hx344_3 := (HB.out.cell (World.block_lt_of_cell? w _ hx344_3)).trans hx344_3
         have HR344_0 := Aside0.mk hi344_0
         have HC344_0 := Aside0.mk hl344_0
         clear hi344_0 hl344_0
         replace p344 := eq_true p344
         replace q344 := eq_true q344
         try go_wp2_with (first | ((with_reducible refine gate_callee (f := 83) rfl ?_); refine goesL_ (some 18) rfl rfl Try.func83 (by kernel_rfl) rfl #[.slice A344_0 ((rd_T43 l0 x5_1).f0).length c344_0, .int .i64 x1_1] rfl (by (try simp only [List.map_toArray, List.map_cons, List.map_nil]); first | done | rfl | (simp only [List.length_drop, List.length_take]; rfl)) ?_; (with_reducible refine (laws_heldLabelS.calls k1 _ _ ((rd_T43 l0 x5_1).f0) x1_1 t345 _ ?side1 ?side2 A5.out).mono ?_); (case side1 => repeat (first | exact (Kd.C_below HR344_0.out HB.out) | (with_reducible refine Kd.C_alloc ?_ _) | (with_reducible refine Kd.C_drewN ?_ _) | (with_reducible refine Kd.C_drew ?_))); (case side2 => exact HC344_0.out); rintro e w11 ⟨rfl, hb⟩; refine ⟨_, rfl, ?_⟩; have n0_ := Aside0.mk (below_step (by repeat (first | (with_reducible first | exact HB.out | apply below_alloc | apply pw_below_drewN | apply below_drew1) | exact HB.out)) hb); clear HB; have HB := n0_; clear n0_; (try clear hb); (try clear hb2); (try clear hk); (try clear hi); have p346 : 0 ≤ (x5_1 : Int) := of_decide_eq_true (by first | (with_reducible assumption) | assumption); have q346 : x5_1 < (l0.length : Int) := of_decide_eq_true (by first | (with_reducible assumption) | assumption); obtain ⟨ad346, A346_0, c346_0, e346, hx346_0, hx346_1, hx346_2, hx346_3, hl346_0, hi346_0⟩ := at_T43 HR0.out x5_1 p346 q346; obtain rfl : ad344 = ad346 := (by injection e346); replace hx346_0 := (HB.out.cell (World.block_lt_of_cell? w _ hx346_0)).trans hx346_0; replace hx346_1 := (HB.out.cell (World.block_lt_of_cell? w _ hx346_1)).trans hx346_1; replace hx346_2 := (HB.out.cell (World.block_lt_of_cell? w _ hx346_2)).trans hx346_2; replace hx346_3 := (HB.out.cell (World.block_lt_of_cell? w _ hx346_3)).trans hx346_3; have HR346_0 := Aside0.mk hi346_0; have HC346_0 := Aside0.mk hl346_0; clear hi346_0 hl346_0; replace p346 := eq_true p346; replace q346 := eq_true q346; have p347 : 0 ≤ (x5_1 : Int) := of_decide_eq_true (by first | (with_reducible assumption) | assumption); have q347 : x5_1 < (l0.length : Int) := of_decide_eq_true (by first | (with_reducible assumption) | assumption); obtain ⟨ad347, A347_0, c347_0, e347, hx347_0, hx347_1, hx347_2, hx347_3, hl347_0, hi347_0⟩ := at_T43 HR0.out x5_1 p347 q347; obtain rfl : ad344 = ad347 := (by injection e347); replace hx347_0 := (HB.out.cell (World.block_lt_of_cell? w _ hx347_0)).trans hx347_0; replace hx347_1 := (HB.out.cell (World.block_lt_of_cell? w _ hx347_1)).trans hx347_1; replace hx347_2 := (HB.out.cell (World.block_lt_of_cell? w _ hx347_2)).trans hx347_2; replace hx347_3 := (HB.out.cell (World.block_lt_of_cell? w _ hx347_3)).trans hx347_3; have HR347_0 := Aside0.mk hi347_0; have HC347_0 := Aside0.mk hl347_0; clear hi347_0 hl347_0; replace p347 := eq_true p347; replace q347 := eq_true q347; have ea_ := Option.some.inj (hx346_0.symm.trans hx347_0); injection ea_ with ea_ en_ ec_; subst ea_; subst ec_; clear en_))
         have n0_ := Aside0.mk (below_drew1 HB.out)
         clear HB
         have HB := n0_
         clear n0_
         have p348 : 0 ≤ (x5_1 : Int) := of_decide_eq_true (by first | (with_reducible assumption) | assumption)
         have q348 : x5_1 < (l0.length : Int) := of_decide_eq_true (by first | (with_reducible assumption) | assumption)
         obtain ⟨ad348, A348_0, c348_0, e348, hx348_0, hx348_1, hx348_2, hx348_3, hl348_0, hi348_0⟩ := at_T43 HR0.out x5_1 p348 q348
         have hw348_3 := hx348_3
         have hw348_2 := hx348_2
         have hw348_1 := hx348_1
         have hw348_0 := hx348_0
         obtain rfl : ad344 = ad348 := (by injection e348)
         replace hx348_0 := (HB.out.cell (World.block_lt_of_cell? w _ hx348_0)).trans hx348_0
         replace hx348_1 := (HB.out.cell (World.block_lt_of_cell? w _ hx348_1)).trans hx348_1
         replace hx348_2 := (HB.out.cell (World.block_lt_of_cell? w _ hx348_2)).trans hx348_2
         replace hx348_3 := (HB.out.cell (World.block_lt_of_cell? w _ hx348_3)).trans hx348_3
         have HR348_0 := Aside0.mk hi348_0
         have HC348_0 := Aside0.mk hl348_0
         clear hi348_0 hl348_0
         replace p348 := eq_true p348
         replace q348 := eq_true q348
         refine start_ (n := 8) (S := fun w' => w'.cell? (ad344.add ((x5_1).toNat * 4)) = some (.slice A348_0 ((rd_T43 l0 x5_1).f0).length c348_0) ∧ w'.cell? ⟨(ad344.add ((x5_1).toNat * 4)).block, (ad344.add ((x5_1).toNat * 4)).off + 1, none⟩ = some (.int .i64 ((rd_T43 l0 x5_1).f1)) ∧ w'.cell? ⟨(ad344.add ((x5_1).toNat * 4)).block, (ad344.add ((x5_1).toNat * 4)).off + 2, none⟩ = some (.int .i64 ((rd_T43 l0 x5_1).f2)) ∧ w'.cell? ⟨(ad344.add ((x5_1).toNat * 4)).block, (ad344.add ((x5_1).toNat * 4)).off + 3, none⟩ = some (.string ((rd_T43 l0 x5_1).f3))) (ds := []) #[false, false, false, false, false, false, false, false] (by kernel_rfl) rfl rfl ⟨((HB.out.cell (World.block_lt_of_cell? w _ hw348_0)).trans hw348_0), ((HB.out.cell (World.block_lt_of_cell? w _ hw348_1)).trans hw348_1), ((HB.out.cell (World.block_lt_of_cell? w _ hw348_2)).trans hw348_2), ((HB.out.cell (World.block_lt_of_cell? w _ hw348_3)).trans hw348_3)⟩ (fun hHeld => ?_); refine with_tabW laws_heldAlarmS.tab13 laws_heldAlarmS.bits13 (fun HT_ HW_ => ?_)
         generalize w11.drew = w12 at HB HR348_0 hx348_0 hx348_1 hx348_2 hx348_3 hHeld ⊢
         refine pure_ (i := 0) (N := some 39) (v := ?_) (a' := ?_) #[true, false, false, false, false, false, false, false] rfl rfl (any_of HT_.out (by kernel_rfl)) (fun _ _ _ h => h) (Or.inl ⟨by rfl, ?_⟩) ?_ ?_
         rotate_left
         ·
          intro w'
          go_simp
          with_reducible rfl
         rotate_left
         ·
          simp only [Act.put, List.setIfInBounds_toArray, List.set_cons_zero, List.set_cons_succ, i64_w, i32_w]
          rfl
         refine pure_ (i := 1) (N := some 40) (v := ?_) (a' := ?_) #[true, true, false, false, false, false, false, false] rfl rfl (any_of HT_.out (by kernel_rfl)) (fun _ _ _ h => h) (Or.inl ⟨by rfl, ?_⟩) ?_ ?_
         rotate_left
         ·
          intro w'
          go_simp
          with_reducible rfl
         rotate_left
         ·
          simp only [Act.put, List.setIfInBounds_toArray, List.set_cons_zero, List.set_cons_succ, i64_w, i32_w]
          rfl
         refine pure_ (i := 2) (N := some 41) (v := ?_) (a' := ?_) #[true, true, true, false, false, false, false, false] rfl rfl (any_of HT_.out (by kernel_rfl)) (fun _ _ _ h => h) (Or.inl ⟨by rfl, ?_⟩) ?_ ?_
         rotate_left
         ·
          intro w'
          go_simp
          with_reducible rfl
         rotate_left
         ·
          simp only [Act.put, List.setIfInBounds_toArray, List.set_cons_zero, List.set_cons_succ, i64_w, i32_w]
          rfl
         refine pure_ (i := 3) (N := some 42) (v := ?_) (a' := ?_) #[true, true, true, true, false, false, false, false] rfl rfl (any_of HT_.out (by kernel_rfl)) (fun _ _ _ h => h) (Or.inl ⟨by rfl, ?_⟩) ?_ ?_
         rotate_left
         ·
          intro w'
          go_simp
          with_reducible rfl
         rotate_left
         ·
          simp only [Act.put, List.setIfInBounds_toArray, List.set_cons_zero, List.set_cons_succ, i64_w, i32_w]
          rfl
         refine pure_ (i := 5) (N := some 44) (v := ?_) (a' := ?_) #[true, true, true, true, false, true, false, false] rfl rfl (any_of HT_.out (by kernel_rfl)) (fun _ _ _ h => h) (Or.inl ⟨by rfl, ?_⟩) ?_ ?_
         rotate_left
         ·
          intro w'
          go_simp
          with_reducible rfl
         rotate_left
         ·
          simp only [Act.put, List.setIfInBounds_toArray, List.set_cons_zero, List.set_cons_succ, i64_w, i32_w]
          rfl
         refine take_ (i := 4) (N := some 43) (v := ?_) (a' := ?_) #[true, true, true, true, true, true, false, false] rfl rfl (take_ofW HT_.out HW_.out (by kernel_rfl)) (fun _ _ _ h => h) (Or.inl ⟨by rfl, ?_⟩) hHeld ?_ ?_
         rotate_left
         ·
          rintro w' ⟨s0, s1, s2, s3⟩
          go_simp
          with_reducible rfl
         rotate_left
         ·
          simp only [Act.put, List.setIfInBounds_toArray, List.set_cons_zero, List.set_cons_succ, i64_w, i32_w]
          rfl
         refine one_ (i := 6) (N := some 45) #[true, true, true, true, true, true, true, false] rfl rfl (one_of HT_.out (by kernel_rfl)) (by decide) (fun K hK => ?_)
         refine goes_ Try.func82 (by kernel_rfl) rfl #[.int .i64 (wrap64 ((wrap64 (t345 + 1)) + 1))] (by rfl) rfl rfl (by (try simp only [List.map_toArray, List.map_cons, List.map_nil]); first | done | rfl | (simp only [List.length_drop, List.length_take]; rfl)) ?_
         with_reducible refine (laws_markText.calls k1 (wrap64 ((wrap64 (t345 + 1)) + 1)) t349 _ A9.out).mono ?_
         rintro e w13 ⟨rfl, hb⟩
         refine ⟨_, rfl, ?_⟩
         have n0_ := Aside0.mk (below_step (by repeat (first | (with_reducible first | exact HB.out | apply below_alloc | apply pw_below_drewN | apply below_drew1) | exact HB.out)) hb)
         clear HB
         have HB := n0_
         clear n0_
         (try clear hb)
         (try clear hb2)
         (try clear hk)
         (try clear hi)
         refine hK.out _ _ ⟨((HB.out.cell (World.block_lt_of_cell? w _ hw348_0)).trans hw348_0), ((HB.out.cell (World.block_lt_of_cell? w _ hw348_1)).trans hw348_1), ((HB.out.cell (World.block_lt_of_cell? w _ hw348_2)).trans hw348_2), ((HB.out.cell (World.block_lt_of_cell? w _ hw348_3)).trans hw348_3)⟩ (fun hHeld => ?_)
         clear hK K
         refine norm_ (a' := ?_) ?_ ?_
         rotate_left
         ·
          show Act.put _ (some 45) _ = _
          simp only [Act.put, List.setIfInBounds_toArray, List.set_cons_zero, List.set_cons_succ, i64_w, i32_w]
          rfl
         refine pure_ (i := 7) (N := some 46) (v := ?_) (a' := ?_) #[true, true, true, true, true, true, true, true] rfl rfl (any_of HT_.out (by kernel_rfl)) (fun _ _ _ h => h) (Or.inl ⟨by rfl, ?_⟩) ?_ ?_
         rotate_left
         ·
          intro w'
          go_simp
          with_reducible rfl
         rotate_left
         ·
          simp only [Act.put, List.setIfInBounds_toArray, List.set_cons_zero, List.set_cons_succ, i64_w, i32_w]
          rfl
         refine done_ (done_of HT_.out (by kernel_rfl)) ?_
         try go_wp2
         go_roundg k1
         case measure => have := HK1.out; omega
         case rel => exact ⟨(wrap64 ((wrap64 ((wrap64 (t345 + 1)) + 1)) + 1)), (wrap64 (x5_1 + 1)), (by first | rfl | (simp; done) | (simp [*]; done)), (by first | rfl | (simp; done) | (simp [*]; done)), H', ⟨by have := HK1.out; omega⟩, ⟨by repeat (first | (with_reducible first | exact HB.out | apply below_alloc | apply pw_below_drewN | apply below_drew1) | exact HB.out)⟩⟩
        ·
         rw [if_neg c10] at H
         exact absurd H (by simp)
       ·
        rw [if_neg c8] at H
        exact absurd H (by simp)
      ·
       rw [if_neg c7] at H
       exact absurd H (by simp)
    ·
     rw [if_neg c4] at H
     exact absurd H (by simp)
   ·
    rw [if_neg c3] at H
    have c3b0 : decide (x5_1 < (l0.length : Int)) = false := decide_eq_false c3
    clear c3
    obtain rfl := Option.some.inj H
    go_wp2
    go_ret
    exact ⟨by first | rfl | (simp [errW_none, errW_some] <;> rfl) | (simp [*, errW_none, errW_some] <;> rfl), by repeat (first | (with_reducible first | exact HB.out | apply below_alloc | apply pw_below_drewN | apply below_drew1) | exact HB.out)⟩

end Go.Proofs.Yticgekgojgkbgaa.Print
end
section
namespace Go.Proofs.Yticgekgojgkbgaa.Print
open Go.RowKit Go.Proofs.YticgekgojgkbgaaV.PrintWords Go.Proofs.YticgekgojgkbgaaV.PrintLast Go.Proofs.YticgekgojgkbgaaV.PrintMore
attribute [local go_sem] max2_int min2_int max_two min_two max_three min_three max_four min_four   -- for this text's walks alone
set_option linter.unusedVariables false
set_option linter.unusedSimpArgs false

/-! ### laws_FnExactAllAlarms: function 11 -/
noncomputable def laws_FnExactAllAlarms.f (k : Nat) (l0 : List (S52)) : Option (Bool) := (laws_szPartS.f k l0 1048576).bind fun t350 => (if t350 < 0 then (some true) else ((laws_toPartS.f k l0).bind fun t351 => ((spec_AllAlarms.f k t351).bind fun t354 => ((laws_toPartS.f k l0).bind fun t357 => ((impl_AllAlarms.f k t357).bind fun t360 => ((laws_eqAlarmS.f k t360 t354).bind fun t363 => (if t363 = true then ((laws_toPartS.f k l0).bind fun t364 => ((laws_eqPartS.f k t357 t364).bind fun t367 => (if t367 = true then ((laws_markPartS.f k t357 1).bind fun bt368 => (if bt368.1 < 0 then (none) else ((laws_eqAlarmS.f k t360 t354).bind fun t370 => (if t370 = true then ((laws_markAlarmS.f k t360 1).bind fun bt371 => ((laws_heldAlarmS.f k bt371.2 1).bind fun t373 => (if t373 < 0 then (none) else (if t373 = bt371.1 then ((laws_toPartS.f k l0).bind fun t374 => ((impl_AllAlarms.f k t374).bind fun t377 => ((laws_eqAlarmS.f k t377 t354).bind fun t380 => (if t380 = true then ((laws_heldAlarmS.f k bt371.2 1).bind fun t381 => (if t381 < 0 then (none) else (if t381 = bt371.1 then (some true) else (none)))) else (none))))) else (none))))) else (none))))) else (none)))) else (none))))))))
theorem laws_FnExactAllAlarms.mono : ∀ a0 k, LeO (laws_FnExactAllAlarms.f k a0) (laws_FnExactAllAlarms.f (k + 1) a0) := by
 intro a0 k
 unfold laws_FnExactAllAlarms.f
 repeat' first
   | (with_reducible exact impl_AllAlarms.mono _ _)
   | (with_reducible exact laws_eqAlarmS.mono _ _ _)
   | (with_reducible exact laws_eqPartS.mono _ _ _)
   | (with_reducible exact laws_heldAlarmS.mono _ _ _)
   | (with_reducible exact laws_markAlarmS.mono _ _ _)
   | (with_reducible exact laws_markPartS.mono _ _ _)
   | (with_reducible exact laws_szPartS.mono _ _ _)
   | (with_reducible exact laws_toPartS.mono _ _)
   | (with_reducible exact spec_AllAlarms.mono _ _)
   | (with_reducible exact LeO.refl _)
   | (with_reducible exact LeO.none _)
   | (with_reducible refine LeO.ite ?_ ?_)
   | (with_reducible refine LeO.bind ?_ (fun _ => ?_))
   | exact impl_AllAlarms.mono _ _
   | exact laws_eqAlarmS.mono _ _ _
   | exact laws_eqPartS.mono _ _ _
   | exact laws_heldAlarmS.mono _ _ _
   | exact laws_markAlarmS.mono _ _ _
   | exact laws_markPartS.mono _ _ _
   | exact laws_szPartS.mono _ _ _
   | exact laws_toPartS.mono _ _
   | exact spec_AllAlarms.mono _ _
   | exact LeO.none _
   | refine LeO.ite ?_ ?_
   | refine LeO.bind ?_ (fun _ => ?_)
set_option maxHeartbeats 8000000 in
set_option maxRecDepth 100000 in
theorem laws_FnExactAllAlarms.calls (k : Nat) (A0 : Option Addr) (c0 : Nat) (l0 : List (S52)) (r : Bool) (w : World) (hr0 : Kd.C k52 w A0 l0.length l0) (hc0 : l0.length ≤ c0) (h : laws_FnExactAllAlarms.f k l0 = some r) :
  Calls Try.prog 11 #[.slice A0 l0.length c0] w fun e w' => e = .returned (.bool r) ∧ Below w.heap.size w w' := by
 have HR0 := Aside0.mk hr0
 have HC0 := Aside0.mk hc0
 clear hr0 hc0
 have HB := Aside0.mk (Below.refl w.heap.size w)
 have H : ((laws_szPartS.f k l0 1048576).bind fun t350 => (if t350 < 0 then (some true) else ((laws_toPartS.f k l0).bind fun t351 => ((spec_AllAlarms.f k t351).bind fun t354 => ((laws_toPartS.f k l0).bind fun t357 => ((impl_AllAlarms.f k t357).bind fun t360 => ((laws_eqAlarmS.f k t360 t354).bind fun t363 => (if t363 = true then ((laws_toPartS.f k l0).bind fun t364 => ((laws_eqPartS.f k t357 t364).bind fun t367 => (if t367 = true then ((laws_markPartS.f k t357 1).bind fun bt368 => (if bt368.1 < 0 then (none) else ((laws_eqAlarmS.f k t360 t354).bind fun t370 => (if t370 = true then ((laws_markAlarmS.f k t360 1).bind fun bt371 => ((laws_heldAlarmS.f k bt371.2 1).bind fun t373 => (if t373 < 0 then (none) else (if t373 = bt371.1 then ((laws_toPartS.f k l0).bind fun t374 => ((impl_AllAlarms.f k t374).bind fun t377 => ((laws_eqAlarmS.f k t377 t354).bind fun t380 => (if t380 = true then ((laws_heldAlarmS.f k bt371.2 1).bind fun t381 => (if t381 < 0 then (none) else (if t381 = bt371.1 then (some true) else (none)))) else (none))))) else (none))))) else (none))))) else (none)))) else (none))))))))) = some r := h
 clear h
 replace H := Option.bind_eq_some_iff.mp H
 obtain ⟨t350, A20, H⟩ := H
 replace H : (if t350 < 0 then (some true) else ((laws_toPartS.f k l0).bind fun t351 => ((spec_AllAlarms.f k t351).bind fun t354 => ((laws_toPartS.f k l0).bind fun t357 => ((impl_AllAlarms.f k t357).bind fun t360 => ((laws_eqAlarmS.f k t360 t354).bind fun t363 => (if t363 = true then ((laws_toPartS.f k l0).bind fun t364 => ((laws_eqPartS.f k t357 t364).bind fun t367 => (if t367 = true then ((laws_markPartS.f k t357 1).bind fun bt368 => (if bt368.1 < 0 then (none) else ((laws_eqAlarmS.f k t360 t354).bind fun t370 => (if t370 = true then ((laws_markAlarmS.f k t360 1).bind fun bt371 => ((laws_heldAlarmS.f k bt371.2 1).bind fun t373 => (if t373 < 0 then (none) else (if t373 = bt371.1 then ((laws_toPartS.f k l0).bind fun t374 => ((impl_AllAlarms.f k t374).bind fun t377 => ((laws_eqAlarmS.f k t377 t354).bind fun t380 => (if t380 = true then ((laws_heldAlarmS.f k bt371.2 1).bind fun t381 => (if t381 < 0 then (none) else (if t381 = bt371.1 then (some true) else (none)))) else (none))))) else (none))))) else (none))))) else (none)))) else (none)))))))) = some r := H
 have A2 := Aside0.mk A20
 clear A20
 by_cases c3 : t350 < 0
 ·
  rw [if_pos c3] at H
  have c3b0 : decide (t350 < 0) = true := decide_eq_true c3
  clear c3
  obtain rfl := Option.some.inj H
  go_enter Try.func11, Try.ntmps11
  go_wp2_with (first | ((with_reducible refine gate_callee (f := 12) rfl ?_); refine goesL_ (some 13) rfl rfl Try.func12 (by kernel_rfl) rfl #[.slice A0 l0.length c0, .int .i64 1048576] rfl (by (try simp only [List.map_toArray, List.map_cons, List.map_nil]); first | done | rfl | (simp only [List.length_drop, List.length_take]; rfl)) ?_; (with_reducible refine (laws_szPartS.calls k _ _ l0 1048576 t350 _ ?side1 ?side2 A2.out).mono ?_); (case side1 => repeat (first | exact HR0.out | (with_reducible refine Kd.C_alloc ?_ _) | (with_reducible refine Kd.C_drewN ?_ _) | (with_reducible refine Kd.C_drew ?_))); (case side2 => exact HC0.out); rintro e w4 ⟨rfl, hb⟩; refine ⟨_, rfl, ?_⟩; have n0_ := Aside0.mk (below_step (by repeat (first | (with_reducible first | exact HB.out | apply below_alloc | apply pw_below_drewN | apply below_drew1) | exact HB.out)) hb); clear HB; have HB := n0_; clear n0_; (try clear hb); (try clear hb2); (try clear hk); (try clear hi)))
  go_ret
  exact ⟨by first | rfl | (simp [errW_none, errW_some] <;> rfl) | (simp [*, errW_none, errW_some] <;> rfl), by repeat (first | (with_reducible first | exact HB.out | apply below_alloc | apply pw_below_drewN | apply below_drew1) | exact HB.out)⟩
 ·
  rw [if_neg c3] at H
  have c3b0 : decide (t350 < 0) = false := decide_eq_false c3
  clear c3
  replace H := Option.bind_eq_some_iff.mp H
  obtain ⟨t351, A50, H⟩ := H
  replace H : ((spec_AllAlarms.f k t351).bind fun t354 => ((laws_toPartS.f k l0).bind fun t357 => ((impl_AllAlarms.f k t357).bind fun t360 => ((laws_eqAlarmS.f k t360 t354).bind fun t363 => (if t363 = true then ((laws_toPartS.f k l0).bind fun t364 => ((laws_eqPartS.f k t357 t364).bind fun t367 => (if t367 = true then ((laws_markPartS.f k t357 1).bind fun bt368 => (if bt368.1 < 0 then (none) else ((laws_eqAlarmS.f k t360 t354).bind fun t370 => (if t370 = true then ((laws_markAlarmS.f k t360 1).bind fun bt371 => ((laws_heldAlarmS.f k bt371.2 1).bind fun t373 => (if t373 < 0 then (none) else (if t373 = bt371.1 then ((laws_toPartS.f k l0).bind fun t374 => ((impl_AllAlarms.f k t374).bind fun t377 => ((laws_eqAlarmS.f k t377 t354).bind fun t380 => (if t380 = true then ((laws_heldAlarmS.f k bt371.2 1).bind fun t381 => (if t381 < 0 then (none) else (if t381 = bt371.1 then (some true) else (none)))) else (none))))) else (none))))) else (none))))) else (none)))) else (none)))))) = some r := H
  have A5 := Aside0.mk A50
  clear A50
  replace H := Option.bind_eq_some_iff.mp H
  obtain ⟨t354, A60, H⟩ := H
  replace H : ((laws_toPartS.f k l0).bind fun t357 => ((impl_AllAlarms.f k t357).bind fun t360 => ((laws_eqAlarmS.f k t360 t354).bind fun t363 => (if t363 = true then ((laws_toPartS.f k l0).bind fun t364 => ((laws_eqPartS.f k t357 t364).bind fun t367 => (if t367 = true then ((laws_markPartS.f k t357 1).bind fun bt368 => (if bt368.1 < 0 then (none) else ((laws_eqAlarmS.f k t360 t354).bind fun t370 => (if t370 = true then ((laws_markAlarmS.f k t360 1).bind fun bt371 => ((laws_heldAlarmS.f k bt371.2 1).bind fun t373 => (if t373 < 0 then (none) else (if t373 = bt371.1 then ((laws_toPartS.f k l0).bind fun t374 => ((impl_AllAlarms.f k t374).bind fun t377 => ((laws_eqAlarmS.f k t377 t354).bind fun t380 => (if t380 = true then ((laws_heldAlarmS.f k bt371.2 1).bind fun t381 => (if t381 < 0 then (none) else (if t381 = bt371.1 then (some true) else (none)))) else (none))))) else (none))))) else (none))))) else (none)))) else (none))))) = some r := H
  have A6 := Aside0.mk A60
  clear A60
  replace H := Option.bind_eq_some_iff.mp H
  obtain ⟨t357, A70, H⟩ := H
  replace H : ((impl_AllAlarms.f k t357).bind fun t360 => ((laws_eqAlarmS.f k t360 t354).bind fun t363 => (if t363 = true then ((laws_toPartS.f k l0).bind fun t364 => ((laws_eqPartS.f k t357 t364).bind fun t367 => (if t367 = true then ((laws_markPartS.f k t357 1).bind fun bt368 => (if bt368.1 < 0 then (none) else ((laws_eqAlarmS.f k t360 t354).bind fun t370 => (if t370 = true then ((laws_markAlarmS.f k t360 1).bind fun bt371 => ((laws_heldAlarmS.f k bt371.2 1).bind fun t373 => (if t373 < 0 then (none) else (if t373 = bt371.1 then ((laws_toPartS.f k l0).bind fun t374 => ((impl_AllAlarms.f k t374).bind fun t377 => ((laws_eqAlarmS.f k t377 t354).bind fun t380 => (if t380 = true then ((laws_heldAlarmS.f k bt371.2 1).bind fun t381 => (if t381 < 0 then (none) else (if t381 = bt371.1 then (some true) else (none)))) else (none))))) else (none))))) else (none))))) else (none)))) else (none)))) = some r := H
  have A7 := Aside0.mk A70
  clear A70
  replace H := Option.bind_eq_some_iff.mp H
  obtain ⟨t360, A80, H⟩ := H
  replace H : ((laws_eqAlarmS.f k t360 t354).bind fun t363 => (if t363 = true then ((laws_toPartS.f k l0).bind fun t364 => ((laws_eqPartS.f k t357 t364).bind fun t367 => (if t367 = true then ((laws_markPartS.f k t357 1).bind fun bt368 => (if bt368.1 < 0 then (none) else ((laws_eqAlarmS.f k t360 t354).bind fun t370 => (if t370 = true then ((laws_markAlarmS.f k t360 1).bind fun bt371 => ((laws_heldAlarmS.f k bt371.2 1).bind fun t373 => (if t373 < 0 then (none) else (if t373 = bt371.1 then ((laws_toPartS.f k l0).bind fun t374 => ((impl_AllAlarms.f k t374).bind fun t377 => ((laws_eqAlarmS.f k t377 t354).bind fun t380 => (if t380 = true then ((laws_heldAlarmS.f k bt371.2 1).bind fun t381 => (if t381 < 0 then (none) else (if t381 = bt371.1 then (some true) else (none)))) else (none))))) else (none))))) else (none))))) else (none)))) else (none))) = some r := H
  have A8 := Aside0.mk A80
  clear A80
  replace H := Option.bind_eq_some_iff.mp H
  obtain ⟨t363, A90, H⟩ := H
  replace H : (if t363 = true then ((laws_toPartS.f k l0).bind fun t364 => ((laws_eqPartS.f k t357 t364).bind fun t367 => (if t367 = true then ((laws_markPartS.f k t357 1).bind fun bt368 => (if bt368.1 < 0 then (none) else ((laws_eqAlarmS.f k t360 t354).bind fun t370 => (if t370 = true then ((laws_markAlarmS.f k t360 1).bind fun bt371 => ((laws_heldAlarmS.f k bt371.2 1).bind fun t373 => (if t373 < 0 then (none) else (if t373 = bt371.1 then ((laws_toPartS.f k l0).bind fun t374 => ((impl_AllAlarms.f k t374).bind fun t377 => ((laws_eqAlarmS.f k t377 t354).bind fun t380 => (if t380 = true then ((laws_heldAlarmS.f k bt371.2 1).bind fun t381 => (if t381 < 0 then (none) else (if t381 = bt371.1 then (some true) else (none)))) else (none))))) else (none))))) else (none))))) else (none)))) else (none)) = some r := H
  have A9 := Aside0.mk A90
  clear A90
  by_cases c10 : t363 = true
  ·
   subst c10
   have H1 : ((laws_toPartS.f k l0).bind fun t364 => ((laws_eqPartS.f k t357 t364).bind fun t367 => (if t367 = true then ((laws_markPartS.f k t357 1).bind fun bt368 => (if bt368.1 < 0 then (none) else ((laws_eqAlarmS.f k t360 t354).bind fun t370 => (if t370 = true then ((laws_markAlarmS.f k t360 1).bind fun bt371 => ((laws_heldAlarmS.f k bt371.2 1).bind fun t373 => (if t373 < 0 then (none) else (if t373 = bt371.1 then ((laws_toPartS.f k l0).bind fun t374 => ((impl_AllAlarms.f k t374).bind fun t377 => ((laws_eqAlarmS.f k t377 t354).bind fun t380 => (if t380 = true then ((laws_heldAlarmS.f k bt371.2 1).bind fun t381 => (if t381 < 0 then (none) else (if t381 = bt371.1 then (some true) else (none)))) else (none))))) else (none))))) else (none))))) else (none)))) = some r := by rw [if_pos rfl] at H; exact H
   clear H
   have H := H1
   clear H1
   replace H := Option.bind_eq_some_iff.mp H
   obtain ⟨t364, A110, H⟩ := H
   replace H : ((laws_eqPartS.f k t357 t364).bind fun t367 => (if t367 = true then ((laws_markPartS.f k t357 1).bind fun bt368 => (if bt368.1 < 0 then (none) else ((laws_eqAlarmS.f k t360 t354).bind fun t370 => (if t370 = true then ((laws_markAlarmS.f k t360 1).bind fun bt371 => ((laws_heldAlarmS.f k bt371.2 1).bind fun t373 => (if t373 < 0 then (none) else (if t373 = bt371.1 then ((laws_toPartS.f k l0).bind fun t374 => ((impl_AllAlarms.f k t374).bind fun t377 => ((laws_eqAlarmS.f k t377 t354).bind fun t380 => (if t380 = true then ((laws_heldAlarmS.f k bt371.2 1).bind fun t381 => (if t381 < 0 then (none) else (if t381 = bt371.1 then (some true) else (none)))) else (none))))) else (none))))) else (none))))) else (none))) = some r := H
   have A11 := Aside0.mk A110
   clear A110
   replace H := Option.bind_eq_some_iff.mp H
   obtain ⟨t367, A120, H⟩ := H
   replace H : (if t367 = true then ((laws_markPartS.f k t357 1).bind fun bt368 => (if bt368.1 < 0 then (none) else ((laws_eqAlarmS.f k t360 t354).bind fun t370 => (if t370 = true then ((laws_markAlarmS.f k t360 1).bind fun bt371 => ((laws_heldAlarmS.f k bt371.2 1).bind fun t373 => (if t373 < 0 then (none) else (if t373 = bt371.1 then ((laws_toPartS.f k l0).bind fun t374 => ((impl_AllAlarms.f k t374).bind fun t377 => ((laws_eqAlarmS.f k t377 t354).bind fun t380 => (if t380 = true then ((laws_heldAlarmS.f k bt371.2 1).bind fun t381 => (if t381 < 0 then (none) else (if t381 = bt371.1 then (some true) else (none)))) else (none))))) else (none))))) else (none))))) else (none)) = some r := H
   have A12 := Aside0.mk A120
   clear A120
   by_cases c13 : t367 = true
   ·
    subst c13
    have H1 : ((laws_markPartS.f k t357 1).bind fun bt368 => (if bt368.1 < 0 then (none) else ((laws_eqAlarmS.f k t360 t354).bind fun t370 => (if t370 = true then ((laws_markAlarmS.f k t360 1).bind fun bt371 => ((laws_heldAlarmS.f k bt371.2 1).bind fun t373 => (if t373 < 0 then (none) else (if t373 = bt371.1 then ((laws_toPartS.f k l0).bind fun t374 => ((impl_AllAlarms.f k t374).bind fun t377 => ((laws_eqAlarmS.f k t377 t354).bind fun t380 => (if t380 = true then ((laws_heldAlarmS.f k bt371.2 1).bind fun t381 => (if t381 < 0 then (none) else (if t381 = bt371.1 then (some true) else (none)))) else (none))))) else (none))))) else (none))))) = some r := by rw [if_pos rfl] at H; exact H
    clear H
    have H := H1
    clear H1
    replace H := Option.bind_eq_some_iff.mp H
    obtain ⟨⟨t368, t369⟩, A140, H⟩ := H
    replace H : (if t368 < 0 then (none) else ((laws_eqAlarmS.f k t360 t354).bind fun t370 => (if t370 = true then ((laws_markAlarmS.f k t360 1).bind fun bt371 => ((laws_heldAlarmS.f k bt371.2 1).bind fun t373 => (if t373 < 0 then (none) else (if t373 = bt371.1 then ((laws_toPartS.f k l0).bind fun t374 => ((impl_AllAlarms.f k t374).bind fun t377 => ((laws_eqAlarmS.f k t377 t354).bind fun t380 => (if t380 = true then ((laws_heldAlarmS.f k bt371.2 1).bind fun t381 => (if t381 < 0 then (none) else (if t381 = bt371.1 then (some true) else (none)))) else (none))))) else (none))))) else (none)))) = some r := H
    have A14 := Aside0.mk A140
    clear A140
    by_cases c15 : t368 < 0
    ·
     rw [if_pos c15] at H
     exact absurd H (by simp)
    ·
     rw [if_neg c15] at H
     have c15b0 : decide (t368 < 0) = false := decide_eq_false c15
     clear c15
     replace H := Option.bind_eq_some_iff.mp H
     obtain ⟨t370, A160, H⟩ := H
     replace H : (if t370 = true then ((laws_markAlarmS.f k t360 1).bind fun bt371 => ((laws_heldAlarmS.f k bt371.2 1).bind fun t373 => (if t373 < 0 then (none) else (if t373 = bt371.1 then ((laws_toPartS.f k l0).bind fun t374 => ((impl_AllAlarms.f k t374).bind fun t377 => ((laws_eqAlarmS.f k t377 t354).bind fun t380 => (if t380 = true then ((laws_heldAlarmS.f k bt371.2 1).bind fun t381 => (if t381 < 0 then (none) else (if t381 = bt371.1 then (some true) else (none)))) else (none))))) else (none))))) else (none)) = some r := H
     have A16 := Aside0.mk A160
     clear A160
     by_cases c17 : t370 = true
     ·
      subst c17
      have H1 : ((laws_markAlarmS.f k t360 1).bind fun bt371 => ((laws_heldAlarmS.f k bt371.2 1).bind fun t373 => (if t373 < 0 then (none) else (if t373 = bt371.1 then ((laws_toPartS.f k l0).bind fun t374 => ((impl_AllAlarms.f k t374).bind fun t377 => ((laws_eqAlarmS.f k t377 t354).bind fun t380 => (if t380 = true then ((laws_heldAlarmS.f k bt371.2 1).bind fun t381 => (if t381 < 0 then (none) else (if t381 = bt371.1 then (some true) else (none)))) else (none))))) else (none))))) = some r := by rw [if_pos rfl] at H; exact H
      clear H
      have H := H1
      clear H1
      replace H := Option.bind_eq_some_iff.mp H
      obtain ⟨⟨t371, t372⟩, A180, H⟩ := H
      replace H : ((laws_heldAlarmS.f k t372 1).bind fun t373 => (if t373 < 0 then (none) else (if t373 = t371 then ((laws_toPartS.f k l0).bind fun t374 => ((impl_AllAlarms.f k t374).bind fun t377 => ((laws_eqAlarmS.f k t377 t354).bind fun t380 => (if t380 = true then ((laws_heldAlarmS.f k t372 1).bind fun t381 => (if t381 < 0 then (none) else (if t381 = t371 then (some true) else (none)))) else (none))))) else (none)))) = some r := H
      have A18 := Aside0.mk A180
      clear A180
      replace H := Option.bind_eq_some_iff.mp H
      obtain ⟨t373, A190, H⟩ := H
      replace H : (if t373 < 0 then (none) else (if t373 = t371 then ((laws_toPartS.f k l0).bind fun t374 => ((impl_AllAlarms.f k t374).bind fun t377 => ((laws_eqAlarmS.f k t377 t354).bind fun t380 => (if t380 = true then ((laws_heldAlarmS.f k t372 1).bind fun t381 => (if t381 < 0 then (none) else (if t381 = t371 then (some true) else (none)))) else (none))))) else (none))) = some r := H
      have A19 := Aside0.mk A190
      clear A190
      by_cases c20 : t373 < 0
      ·
       rw [if_pos c20] at H
       exact absurd H (by simp)
      ·
       rw [if_neg c20] at H
       have c20b0 : decide (t373 < 0) = false := decide_eq_false c20
       clear c20
       by_cases c21 : t373 = t371
       ·
        rw [if_pos c21] at H
        have c21b0 : (t373 == t371) = true := beq_iff_eq.mpr c21
        have c21b1 : (t373 != t371) = false := bne_eq_false_iff_eq.mpr c21
        clear c21
        replace H := Option.bind_eq_some_iff.mp H
        obtain ⟨t374, A220, H⟩ := H
        replace H : ((impl_AllAlarms.f k t374).bind fun t377 => ((laws_eqAlarmS.f k t377 t354).bind fun t380 => (if t380 = true then ((laws_heldAlarmS.f k t372 1).bind fun t381 => (if t381 < 0 then (none) else (if t381 = t371 then (some true) else (none)))) else (none)))) = some r := H
        have A22 := Aside0.mk A220
        clear A220
        replace H := Option.bind_eq_some_iff.mp H
        obtain ⟨t377, A230, H⟩ := H
        replace H : ((laws_eqAlarmS.f k t377 t354).bind fun t380 => (if t380 = true then ((laws_heldAlarmS.f k t372 1).bind fun t381 => (if t381 < 0 then (none) else (if t381 = t371 then (some true) else (none)))) else (none))) = some r := H
        have A23 := Aside0.mk A230
        clear A230
        replace H := Option.bind_eq_some_iff.mp H
        obtain ⟨t380, A240, H⟩ := H
        replace H : (if t380 = true then ((laws_heldAlarmS.f k t372 1).bind fun t381 => (if t381 < 0 then (none) else (if t381 = t371 then (some true) else (none)))) else (none)) = some r := H
        have A24 := Aside0.mk A240
        clear A240
        by_cases c25 : t380 = true
        ·
         subst c25
         have H1 : ((laws_heldAlarmS.f k t372 1).bind fun t381 => (if t381 < 0 then (none) else (if t381 = t371 then (some true) else (none)))) = some r := by rw [if_pos rfl] at H; exact H
         clear H
         have H := H1
         clear H1
         replace H := Option.bind_eq_some_iff.mp H
         obtain ⟨t381, A260, H⟩ := H
         replace H : (if t381 < 0 then (none) else (if t381 = t371 then (some true) else (none))) = some r := H
         have A26 := Aside0.mk A260
         clear A260
         by_cases c27 : t381 < 0
         ·
          rw [if_pos c27] at H
          exact absurd H (by simp)
         ·
          rw [if_neg c27] at H
          have c27b0 : decide (t381 < 0) = false := decide_eq_false c27
          clear c27
          by_cases c28 : t381 = t371
          ·
           rw [if_pos c28] at H
           have c28b0 : (t381 == t371) = true := beq_iff_eq.mpr c28
           have c28b1 : (t381 != t371) = false := bne_eq_false_iff_eq.mpr c28
           clear c28
           obtain rfl := Option.some.inj H
           go_enter Try.func11, Try.ntmps11
           go_wp2_with (first | ((with_reducible refine gate_callee (f := 12) rfl ?_); refine goesL_ (some 13) rfl rfl Try.func12 (by kernel_rfl) rfl #[.slice A0 l0.length c0, .int .i64 1048576] rfl (by (try simp only [List.map_toArray, List.map_cons, List.map_nil]); first | done | rfl | (simp only [List.length_drop, List.length_take]; rfl)) ?_; (with_reducible refine (laws_szPartS.calls k _ _ l0 1048576 t350 _ ?side1 ?side2 A2.out).mono ?_); (case side1 => repeat (first | exact HR0.out | (with_reducible refine Kd.C_alloc ?_ _) | (with_reducible refine Kd.C_drewN ?_ _) | (with_reducible refine Kd.C_drew ?_))); (case side2 => exact HC0.out); rintro e w29 ⟨rfl, hb⟩; refine ⟨_, rfl, ?_⟩; have n0_ := Aside0.mk (below_step (by repeat (first | (with_reducible first | exact HB.out | apply below_alloc | apply pw_below_drewN | apply below_drew1) | exact HB.out)) hb); clear HB; have HB := n0_; clear n0_; (try clear hb); (try clear hb2); (try clear hk); (try clear hi)) | ((with_reducible refine gate_callee (f := 15) rfl ?_); refine goesL_ (some 17) rfl rfl Try.func15 (by kernel_rfl) rfl #[.slice A0 l0.length c0] rfl (by (try simp only [List.map_toArray, List.map_cons, List.map_nil]); first | done | rfl | (simp only [List.length_drop, List.length_take]; rfl)) ?_; (with_reducible refine (laws_toPartS.calls k _ _ l0 t351 _ ?side1 ?side2 A5.out).mono ?_); (case side1 => repeat (first | exact (Kd.C_below HR0.out HB.out) | (with_reducible refine Kd.C_alloc ?_ _) | (with_reducible refine Kd.C_drewN ?_ _) | (with_reducible refine Kd.C_drew ?_))); (case side2 => exact HC0.out); rintro e w30 ⟨v352, rfl, ho0, hb⟩; refine ⟨_, rfl, ?_⟩; obtain ⟨gbz352, hz352⟩ := Kd.S_name ho0; have n0_ := Aside0.mk (Kd.S_lower (Kd.S_gez hz352 ho0) (below_size (by repeat (first | (with_reducible first | exact HB.out | apply below_alloc | apply pw_below_drewN | apply below_drew1) | exact HB.out)))); have n1_ := Aside0.mk (below_step (by repeat (first | (with_reducible first | exact HB.out | apply below_alloc | apply pw_below_drewN | apply below_drew1) | exact HB.out)) hb); clear HB; have HO353 := n0_; have HB := n1_; clear n0_ n1_; (try clear hb); (try clear hb2); (try clear hk); (try clear hi); (try clear ho0); obtain ⟨Ao31, co31, eo31⟩ := Kd.S_slice HO353.out; subst eo31) | ((with_reducible refine gate_callee (f := 50) rfl ?_); refine goesL_ (some 18) rfl rfl Try.func50 (by kernel_rfl) rfl #[.slice Ao31 t351.length co31] rfl (by (try simp only [List.map_toArray, List.map_cons, List.map_nil]); first | done | rfl | (simp only [List.length_drop, List.length_take]; rfl)) ?_; (with_reducible refine (spec_AllAlarms.calls k _ _ t351 t354 _ ?side1 ?side2 A6.out).mono ?_); (case side1 => repeat (first | exact (Kd.S_reads' HO353.out).2.2 | (with_reducible refine Kd.C_alloc ?_ _) | (with_reducible refine Kd.C_drewN ?_ _) | (with_reducible refine Kd.C_drew ?_))); (case side2 => exact (Kd.S_reads' HO353.out).2.1); rintro e w32 ⟨v355, rfl, ho0, hb⟩; refine ⟨_, rfl, ?_⟩; obtain ⟨gbz355, hz355⟩ := Kd.S_name ho0; have n0_ := Aside0.mk (Kd.S_below (Kd.S_ltz hz355 (by (with_reducible repeat (first | apply Kd.S_alloc | apply Kd.S_drewN | apply Kd.S_drew)); exact HO353.out)) hb); have n1_ := Aside0.mk (Kd.S_lower (Kd.S_gez hz355 ho0) (below_size (by repeat (first | (with_reducible first | exact HB.out | apply below_alloc | apply pw_below_drewN | apply below_drew1) | exact HB.out)))); have n2_ := Aside0.mk (below_step (by repeat (first | (with_reducible first | exact HB.out | apply below_alloc | apply pw_below_drewN | apply below_drew1) | exact HB.out)) hb); clear HO353; clear HB; have HO353 := n0_; have HO356 := n1_; have HB := n2_; clear n0_ n1_ n2_; (try clear hb); (try clear hb2); (try clear hk); (try clear hi); (try clear ho0)) | ((with_reducible refine gate_callee (f := 15) rfl ?_); refine goesL_ (some 20) rfl rfl Try.func15 (by kernel_rfl) rfl #[.slice A0 l0.length c0] rfl (by (try simp only [List.map_toArray, List.map_cons, List.map_nil]); first | done | rfl | (simp only [List.length_drop, List.length_take]; rfl)) ?_; (with_reducible refine (laws_toPartS.calls k _ _ l0 t357 _ ?side1 ?side2 A7.out).mono ?_); (case side1 => repeat (first | exact (Kd.C_below HR0.out HB.out) | (with_reducible refine Kd.C_alloc ?_ _) | (with_reducible refine Kd.C_drewN ?_ _) | (with_reducible refine Kd.C_drew ?_))); (case side2 => exact HC0.out); rintro e w33 ⟨v358, rfl, ho0, hb⟩; refine ⟨_, rfl, ?_⟩; obtain ⟨gbz358, hz358⟩ := Kd.S_name ho0; have n0_ := Aside0.mk (Kd.S_below (Kd.S_ltz hz358 (by (with_reducible repeat (first | apply Kd.S_alloc | apply Kd.S_drewN | apply Kd.S_drew)); exact HO356.out)) hb); have n1_ := Aside0.mk (Kd.S_lower (Kd.S_gez hz358 ho0) (below_size (by repeat (first | (with_reducible first | exact HB.out | apply below_alloc | apply pw_below_drewN | apply below_drew1) | exact HB.out)))); have n2_ := Aside0.mk (below_step (by repeat (first | (with_reducible first | exact HB.out | apply below_alloc | apply pw_below_drewN | apply below_drew1) | exact HB.out)) hb); clear HO356; clear HB; have HO356 := n0_; have HO359 := n1_; have HB := n2_; clear n0_ n1_ n2_; (try clear hb); (try clear hb2); (try clear hk); (try clear hi); (try clear ho0); obtain ⟨Ao34, co34, eo34⟩ := Kd.S_slice HO359.out; subst eo34) | ((with_reducible refine gate_callee (f := 51) rfl ?_); refine goesL_ (some 22) rfl rfl Try.func51 (by kernel_rfl) rfl #[.slice Ao34 t357.length co34] rfl (by (try simp only [List.map_toArray, List.map_cons, List.map_nil]); first | done | rfl | (simp only [List.length_drop, List.length_take]; rfl)) ?_; (with_reducible refine (impl_AllAlarms.calls k _ _ t357 t360 _ ?side1 ?side2 A8.out).mono ?_); (case side1 => repeat (first | exact (Kd.S_reads' HO359.out).2.2 | (with_reducible refine Kd.C_alloc ?_ _) | (with_reducible refine Kd.C_drewN ?_ _) | (with_reducible refine Kd.C_drew ?_))); (case side2 => exact (Kd.S_reads' HO359.out).2.1); rintro e w35 ⟨v361, rfl, ho0, hb⟩; refine ⟨_, rfl, ?_⟩; obtain ⟨gbz361, hz361⟩ := Kd.S_name ho0; have n0_ := Aside0.mk (Kd.S_below (Kd.S_ltz hz361 (by (with_reducible repeat (first | apply Kd.S_alloc | apply Kd.S_drewN | apply Kd.S_drew)); exact HO356.out)) hb); have n1_ := Aside0.mk (Kd.S_below (Kd.S_ltz hz361 (by (with_reducible repeat (first | apply Kd.S_alloc | apply Kd.S_drewN | apply Kd.S_drew)); exact HO359.out)) hb); have n2_ := Aside0.mk (Kd.S_lower (Kd.S_gez hz361 ho0) (below_size (by repeat (first | (with_reducible first | exact HB.out | apply below_alloc | apply pw_below_drewN | apply below_drew1) | exact HB.out)))); have n3_ := Aside0.mk (below_step (by repeat (first | (with_reducible first | exact HB.out | apply below_alloc | apply pw_below_drewN | apply below_drew1) | exact HB.out)) hb); clear HO356; clear HO359; clear HB; have HO356 := n0_; have HO359 := n1_; have HO362 := n2_; have HB := n3_; clear n0_ n1_ n2_ n3_; (try clear hb); (try clear hb2); (try clear hk); (try clear hi); (try clear ho0); obtain ⟨Ao36, co36, eo36⟩ := Kd.S_slice HO362.out; subst eo36; obtain ⟨Ao37, co37, eo37⟩ := Kd.S_slice HO356.out; subst eo37) | ((with_reducible refine gate_callee (f := 52) rfl ?_); refine goesL_ (some 25) rfl rfl Try.func52 (by kernel_rfl) rfl #[.slice Ao36 t360.length co36, .slice Ao37 t354.length co37] rfl (by (try simp only [List.map_toArray, List.map_cons, List.map_nil]); first | done | rfl | (simp only [List.length_drop, List.length_take]; rfl)) ?_; (with_reducible refine (laws_eqAlarmS.calls k _ _ t360 _ _ t354 true _ ?side1 ?side2 ?side3 ?side4 A9.out).mono ?_); (case side1 => repeat (first | exact (Kd.S_reads' HO362.out).2.2 | (with_reducible refine Kd.C_alloc ?_ _) | (with_reducible refine Kd.C_drewN ?_ _) | (with_reducible refine Kd.C_drew ?_))); (case side2 => exact (Kd.S_reads' HO362.out).2.1); (case side3 => repeat (first | exact (Kd.S_reads' HO356.out).2.2 | (with_reducible refine Kd.C_alloc ?_ _) | (with_reducible refine Kd.C_drewN ?_ _) | (with_reducible refine Kd.C_drew ?_))); (case side4 => exact (Kd.S_reads' HO356.out).2.1); rintro e w38 ⟨rfl, hb⟩; refine ⟨_, rfl, ?_⟩; have n0_ := Aside0.mk (Kd.S_below (by (with_reducible repeat (first | apply Kd.S_alloc | apply Kd.S_drewN | apply Kd.S_drew)); exact HO356.out) hb); have n1_ := Aside0.mk (Kd.S_below (by (with_reducible repeat (first | apply Kd.S_alloc | apply Kd.S_drewN | apply Kd.S_drew)); exact HO359.out) hb); have n2_ := Aside0.mk (Kd.S_below (by (with_reducible repeat (first | apply Kd.S_alloc | apply Kd.S_drewN | apply Kd.S_drew)); exact HO362.out) hb); have n3_ := Aside0.mk (below_step (by repeat (first | (with_reducible first | exact HB.out | apply below_alloc | apply pw_below_drewN | apply below_drew1) | exact HB.out)) hb); clear HO356; clear HO359; clear HO362; clear HB; have HO356 := n0_; have HO359 := n1_; have HO362 := n2_; have HB := n3_; clear n0_ n1_ n2_ n3_; (try clear hb); (try clear hb2); (try clear hk); (try clear hi)) | ((with_reducible refine gate_callee (f := 15) rfl ?_); refine goesL_ (some 29) rfl rfl Try.func15 (by kernel_rfl) rfl #[.slice A0 l0.length c0] rfl (by (try simp only [List.map_toArray, List.map_cons, List.map_nil]); first | done | rfl | (simp only [List.length_drop, List.length_take]; rfl)) ?_; (with_reducible refine (laws_toPartS.calls k _ _ l0 t364 _ ?side1 ?side2 A11.out).mono ?_); (case side1 => repeat (first | exact (Kd.C_below HR0.out HB.out) | (with_reducible refine Kd.C_alloc ?_ _) | (with_reducible refine Kd.C_drewN ?_ _) | (with_reducible refine Kd.C_drew ?_))); (case side2 => exact HC0.out); rintro e w39 ⟨v365, rfl, ho0, hb⟩; refine ⟨_, rfl, ?_⟩; obtain ⟨gbz365, hz365⟩ := Kd.S_name ho0; have n0_ := Aside0.mk (Kd.S_below (Kd.S_ltz hz365 (by (with_reducible repeat (first | apply Kd.S_alloc | apply Kd.S_drewN | apply Kd.S_drew)); exact HO356.out)) hb); have n1_ := Aside0.mk (Kd.S_below (Kd.S_ltz hz365 (by (with_reducible repeat (first | apply Kd.S_alloc | apply Kd.S_drewN | apply Kd.S_drew)); exact HO359.out)) hb); have n2_ := Aside0.mk (Kd.S_below (Kd.S_ltz hz365 (by (with_reducible repeat (first | apply Kd.S_alloc | apply Kd.S_drewN | apply Kd.S_drew)); exact HO362.out)) hb); have n3_ := Aside0.mk (Kd.S_lower (Kd.S_gez hz365 ho0) (below_size (by repeat (first | (with_reducible first | exact HB.out | apply below_alloc | apply pw_below_drewN | apply below_drew1) | exact HB.out)))); have n4_ := Aside0.mk (below_step (by repeat (first | (with_reducible first | exact HB.out | apply below_alloc | apply pw_below_drewN | apply below_drew1) | exact HB.out)) hb); clear HO356; clear HO359; clear HO362; clear HB; have HO356 := n0_; have HO359 := n1_; have HO362 := n2_; have HO366 := n3_; have HB := n4_; clear n0_ n1_ n2_ n3_ n4_; (try clear hb); (try clear hb2); (try clear hk); (try clear hi); (try clear ho0); obtain ⟨Ao40, co40, eo40⟩ := Kd.S_slice HO366.out; subst eo40) | ((with_reducible refine gate_callee (f := 18) rfl ?_); refine goesL_ (some 30) rfl rfl Try.func18 (by kernel_rfl) rfl #[.slice Ao34 t357.length co34, .slice Ao40 t364.length co40] rfl (by (try simp only [List.map_toArray, List.map_cons, List.map_nil]); first | done | rfl | (simp only [List.length_drop, List.length_take]; rfl)) ?_; (with_reducible refine (laws_eqPartS.calls k _ _ t357 _ _ t364 true _ ?side1 ?side2 ?side3 ?side4 A12.out).mono ?_); (case side1 => repeat (first | exact (Kd.S_reads' HO359.out).2.2 | (with_reducible refine Kd.C_alloc ?_ _) | (with_reducible refine Kd.C_drewN ?_ _) | (with_reducible refine Kd.C_drew ?_))); (case side2 => exact (Kd.S_reads' HO359.out).2.1); (case side3 => repeat (first | exact (Kd.S_reads' HO366.out).2.2 | (with_reducible refine Kd.C_alloc ?_ _) | (with_reducible refine Kd.C_drewN ?_ _) | (with_reducible refine Kd.C_drew ?_))); (case side4 => exact (Kd.S_reads' HO366.out).2.1); rintro e w41 ⟨rfl, hb⟩; refine ⟨_, rfl, ?_⟩; have n0_ := Aside0.mk (Kd.S_below (by (with_reducible repeat (first | apply Kd.S_alloc | apply Kd.S_drewN | apply Kd.S_drew)); exact HO356.out) hb); have n1_ := Aside0.mk (Kd.S_below (by (with_reducible repeat (first | apply Kd.S_alloc | apply Kd.S_drewN | apply Kd.S_drew)); exact HO359.out) hb); have n2_ := Aside0.mk (Kd.S_below (by (with_reducible repeat (first | apply Kd.S_alloc | apply Kd.S_drewN | apply Kd.S_drew)); exact HO362.out) hb); have n3_ := Aside0.mk (Kd.S_below (by (with_reducible repeat (first | apply Kd.S_alloc | apply Kd.S_drewN | apply Kd.S_drew)); exact HO366.out) hb); have n4_ := Aside0.mk (below_step (by repeat (first | (with_reducible first | exact HB.out | apply below_alloc | apply pw_below_drewN | apply below_drew1) | exact HB.out)) hb); clear HO356; clear HO359; clear HO362; clear HO366; clear HB; have HO356 := n0_; have HO359 := n1_; have HO362 := n2_; have HO366 := n3_; have HB := n4_; clear n0_ n1_ n2_ n3_ n4_; (try clear hb); (try clear hb2); (try clear hk); (try clear hi); obtain ⟨PXP42, hPXP42, hPlP42⟩ := Kd.S_fp HO359.out) | ((with_reducible refine gate_callee (f := 41) rfl ?_); refine goesL_ (some 34) rfl rfl Try.func41 (by kernel_rfl) rfl #[.slice Ao34 t357.length co34, .int .i64 1] rfl (by (try simp only [List.map_toArray, List.map_cons, List.map_nil]); first | done | rfl | (simp only [List.length_drop, List.length_take]; rfl)) ?_; (with_reducible refine (laws_markPartS.calls k PXP42 (.slice Ao34 t357.length co34) t357 1 t368 t369 w _ ?side1 ?side2 A14.out).mono ?_); (case side1 => repeat (first | (with_reducible first | exact HB.out | apply below_alloc | apply pw_below_drewN | apply below_drew1) | exact HB.out)); (case side2 => exact hPXP42); rintro e w43 ⟨rfl, hy0, hb, hkp⟩; refine ⟨_, rfl, ?_⟩; have n0_ := Aside0.mk (Kd.S_mono (ok' := fun k_ => gbz355 ≤ k_ ∧ k_ < gbz358 ∧ k_ < gbz361 ∧ k_ < gbz365) (Kd.S_keptB (HO356.out) hkp (fun k_ hk_ hs_ => (fun e_ => Nat.lt_irrefl _ (Nat.lt_of_lt_of_le hk_.1.1.2 (hPlP42 _ e_).1.1.1.2)) hs_)) (fun k_ hk_ => ⟨hk_.1.1.1.1.2, hk_.1.1.1.2, hk_.1.1.2, hk_.1.2⟩)); have n1_ := Aside0.mk (Kd.S_mono hy0 (fun k_ hk_ => (hPlP42 k_ hk_).1)); have n2_ := Aside0.mk (Kd.S_mono (ok' := fun k_ => gbz361 ≤ k_ ∧ k_ < gbz365) (Kd.S_keptB (HO362.out) hkp (fun k_ hk_ hs_ => (fun e_ => Nat.lt_irrefl _ (Nat.lt_of_lt_of_le (hPlP42 _ e_).1.1.2 hk_.1.2)) hs_)) (fun k_ hk_ => ⟨hk_.1.1.2, hk_.1.2⟩)); have n3_ := Aside0.mk (hb); clear HO356; clear HO359; clear HO362; clear HB; have HO356 := n0_; have HO359 := n1_; have HO362 := n2_; have HB := n3_; clear n0_ n1_ n2_ n3_; (try clear hb); (try clear hkp); (try clear hy0)) | (go_at_call 52; (with_reducible refine (laws_eqAlarmS.calls k _ _ t360 _ _ t354 true _ ?side1 ?side2 ?side3 ?side4 A16.out).mono ?_); (case side1 => repeat (first | exact (Kd.S_reads' HO362.out).2.2 | (with_reducible refine Kd.C_alloc ?_ _) | (with_reducible refine Kd.C_drewN ?_ _) | (with_reducible refine Kd.C_drew ?_))); (case side2 => exact (Kd.S_reads' HO362.out).2.1); (case side3 => repeat (first | exact (Kd.S_reads' HO356.out).2.2 | (with_reducible refine Kd.C_alloc ?_ _) | (with_reducible refine Kd.C_drewN ?_ _) | (with_reducible refine Kd.C_drew ?_))); (case side4 => exact (Kd.S_reads' HO356.out).2.1); rintro e w44 ⟨rfl, hb⟩; have n0_ := Aside0.mk (Kd.S_below (by (with_reducible repeat (first | apply Kd.S_alloc | apply Kd.S_drewN | apply Kd.S_drew)); exact HO356.out) hb); have n1_ := Aside0.mk (Kd.S_below (by (with_reducible repeat (first | apply Kd.S_alloc | apply Kd.S_drewN | apply Kd.S_drew)); exact HO362.out) hb); have n2_ := Aside0.mk (below_step (by repeat (first | (with_reducible first | exact HB.out | apply below_alloc | apply pw_below_drewN | apply below_drew1) | exact HB.out)) hb); clear HO356; clear HO362; clear HB; have HO356 := n0_; have HO362 := n1_; have HB := n2_; clear n0_ n1_ n2_; (try clear hb); (try clear hb2); (try clear hk); (try clear hi); obtain ⟨PXP45, hPXP45, hPlP45⟩ := Kd.S_fp HO362.out) | ((with_reducible refine gate_callee (f := 53) rfl ?_); refine goesL_ (some 45) rfl rfl Try.func53 (by kernel_rfl) rfl #[.slice Ao36 t360.length co36, .int .i64 1] rfl (by (try simp only [List.map_toArray, List.map_cons, List.map_nil]); first | done | rfl | (simp only [List.length_drop, List.length_take]; rfl)) ?_; (with_reducible refine (laws_markAlarmS.calls k PXP45 (.slice Ao36 t360.length co36) t360 1 t371 t372 w _ ?side1 ?side2 A18.out).mono ?_); (case side1 => repeat (first | (with_reducible first | exact HB.out | apply below_alloc | apply pw_below_drewN | apply below_drew1) | exact HB.out)); (case side2 => exact hPXP45); rintro e w46 ⟨rfl, hy0, hb, hkp⟩; refine ⟨_, rfl, ?_⟩; have n0_ := Aside0.mk (Kd.S_mono (ok' := fun k_ => gbz355 ≤ k_ ∧ k_ < gbz358 ∧ k_ < gbz361 ∧ k_ < gbz365) (Kd.S_keptB (HO356.out) hkp (fun k_ hk_ hs_ => (fun e_ => Nat.lt_irrefl _ (Nat.lt_of_lt_of_le hk_.2.2.1 (hPlP45 _ e_).1.1)) hs_)) (fun k_ hk_ => ⟨hk_.1.1, hk_.1.2.1, hk_.1.2.2.1, hk_.1.2.2.2⟩)); have n1_ := Aside0.mk (Kd.S_mono hy0 (fun k_ hk_ => (hPlP45 k_ hk_).1)); have n2_ := Aside0.mk (hb); clear HO356; clear HO362; clear HB; have HO356 := n0_; have HO362 := n1_; have HB := n2_; clear n0_ n1_ n2_; (try clear hb); (try clear hkp); (try clear hy0)) | ((with_reducible refine gate_callee (f := 54) rfl ?_); refine goesL_ (some 48) rfl rfl Try.func54 (by kernel_rfl) rfl #[.slice Ao36 t372.length co36, .int .i64 1] rfl (by (try simp only [List.map_toArray, List.map_cons, List.map_nil]); first | done | (rw [show t372.length = t360.length from (Kd.S_reads' HO362.out).1.symm] <;> rfl) | rfl | (simp only [List.length_drop, List.length_take]; rfl)) ?_; (with_reducible refine (laws_heldAlarmS.calls k _ _ t372 1 t373 _ ?side1 ?side2 A19.out).mono ?_); (case side1 => repeat (first | exact (Kd.S_reads' HO362.out).2.2 | (with_reducible refine Kd.C_alloc ?_ _) | (with_reducible refine Kd.C_drewN ?_ _) | (with_reducible refine Kd.C_drew ?_))); (case side2 => rw [show t372.length = t360.length from (Kd.S_reads' HO362.out).1.symm]; exact (Kd.S_reads' HO362.out).2.1); rintro e w47 ⟨rfl, hb⟩; refine ⟨_, rfl, ?_⟩; have n0_ := Aside0.mk (Kd.S_below (by (with_reducible repeat (first | apply Kd.S_alloc | apply Kd.S_drewN | apply Kd.S_drew)); exact HO356.out) hb); have n1_ := Aside0.mk (Kd.S_below (by (with_reducible repeat (first | apply Kd.S_alloc | apply Kd.S_drewN | apply Kd.S_drew)); exact HO362.out) hb); have n2_ := Aside0.mk (below_step (by repeat (first | (with_reducible first | exact HB.out | apply below_alloc | apply pw_below_drewN | apply below_drew1) | exact HB.out)) hb); clear HO356; clear HO362; clear HB; have HO356 := n0_; have HO362 := n1_; have HB := n2_; clear n0_ n1_ n2_; (try clear hb); (try clear hb2); (try clear hk); (try clear hi)) | ((with_reducible refine gate_callee (f := 15) rfl ?_); refine goesL_ (some 55) rfl rfl Try.func15 (by kernel_rfl) rfl #[.slice A0 l0.length c0] rfl (by (try simp only [List.map_toArray, List.map_cons, List.map_nil]); first | done | rfl | (simp only [List.length_drop, List.length_take]; rfl)) ?_; (with_reducible refine (laws_toPartS.calls k _ _ l0 t374 _ ?side1 ?side2 A22.out).mono ?_); (case side1 => repeat (first | exact (Kd.C_below HR0.out HB.out) | (with_reducible refine Kd.C_alloc ?_ _) | (with_reducible refine Kd.C_drewN ?_ _) | (with_reducible refine Kd.C_drew ?_))); (case side2 => exact HC0.out); rintro e w48 ⟨v375, rfl, ho0, hb⟩; refine ⟨_, rfl, ?_⟩; obtain ⟨gbz375, hz375⟩ := Kd.S_name ho0; have n0_ := Aside0.mk (Kd.S_below (Kd.S_ltz hz375 (by (with_reducible repeat (first | apply Kd.S_alloc | apply Kd.S_drewN | apply Kd.S_drew)); exact HO356.out)) hb); have n1_ := Aside0.mk (Kd.S_below (Kd.S_ltz hz375 (by (with_reducible repeat (first | apply Kd.S_alloc | apply Kd.S_drewN | apply Kd.S_drew)); exact HO362.out)) hb); have n2_ := Aside0.mk (Kd.S_lower (Kd.S_gez hz375 ho0) (below_size (by repeat (first | (with_reducible first | exact HB.out | apply below_alloc | apply pw_below_drewN | apply below_drew1) | exact HB.out)))); have n3_ := Aside0.mk (below_step (by repeat (first | (with_reducible first | exact HB.out | apply below_alloc | apply pw_below_drewN | apply below_drew1) | exact HB.out)) hb); clear HO356; clear HO362; clear HB; have HO356 := n0_; have HO362 := n1_; have HO376 := n2_; have HB := n3_; clear n0_ n1_ n2_ n3_; (try clear hb); (try clear hb2); (try clear hk); (try clear hi); (try clear ho0); obtain ⟨Ao49, co49, eo49⟩ := Kd.S_slice HO376.out; subst eo49) | ((with_reducible refine gate_callee (f := 51) rfl ?_); refine goesL_ (some 56) rfl rfl Try.func51 (by kernel_rfl) rfl #[.slice Ao49 t374.length co49] rfl (by (try simp only [List.map_toArray, List.map_cons, List.map_nil]); first | done | rfl | (simp only [List.length_drop, List.length_take]; rfl)) ?_; (with_reducible refine (impl_AllAlarms.calls k _ _ t374 t377 _ ?side1 ?side2 A23.out).mono ?_); (case side1 => repeat (first | exact (Kd.S_reads' HO376.out).2.2 | (with_reducible refine Kd.C_alloc ?_ _) | (with_reducible refine Kd.C_drewN ?_ _) | (with_reducible refine Kd.C_drew ?_))); (case side2 => exact (Kd.S_reads' HO376.out).2.1); rintro e w50 ⟨v378, rfl, ho0, hb⟩; refine ⟨_, rfl, ?_⟩; obtain ⟨gbz378, hz378⟩ := Kd.S_name ho0; have n0_ := Aside0.mk (Kd.S_below (Kd.S_ltz hz378 (by (with_reducible repeat (first | apply Kd.S_alloc | apply Kd.S_drewN | apply Kd.S_drew)); exact HO356.out)) hb); have n1_ := Aside0.mk (Kd.S_below (Kd.S_ltz hz378 (by (with_reducible repeat (first | apply Kd.S_alloc | apply Kd.S_drewN | apply Kd.S_drew)); exact HO362.out)) hb); have n2_ := Aside0.mk (Kd.S_below (Kd.S_ltz hz378 (by (with_reducible repeat (first | apply Kd.S_alloc | apply Kd.S_drewN | apply Kd.S_drew)); exact HO376.out)) hb); have n3_ := Aside0.mk (Kd.S_lower (Kd.S_gez hz378 ho0) (below_size (by repeat (first | (with_reducible first | exact HB.out | apply below_alloc | apply pw_below_drewN | apply below_drew1) | exact HB.out)))); have n4_ := Aside0.mk (below_step (by repeat (first | (with_reducible first | exact HB.out | apply below_alloc | apply pw_below_drewN | apply below_drew1) | exact HB.out)) hb); clear HO356; clear HO362; clear HO376; clear HB; have HO356 := n0_; have HO362 := n1_; have HO376 := n2_; have HO379 := n3_; have HB := n4_; clear n0_ n1_ n2_ n3_ n4_; (try clear hb); (try clear hb2); (try clear hk); (try clear hi); (try clear ho0); obtain ⟨Ao51, co51, eo51⟩ := Kd.S_slice HO379.out; subst eo51) | ((with_reducible refine gate_callee (f := 52) rfl ?_); refine goesL_ (some 59) rfl rfl Try.func52 (by kernel_rfl) rfl #[.slice Ao51 t377.length co51, .slice Ao37 t354.length co37] rfl (by (try simp only [List.map_toArray, List.map_cons, List.map_nil]); first | done | rfl | (simp only [List.length_drop, List.length_take]; rfl)) ?_; (with_reducible refine (laws_eqAlarmS.calls k _ _ t377 _ _ t354 true _ ?side1 ?side2 ?side3 ?side4 A24.out).mono ?_); (case side1 => repeat (first | exact (Kd.S_reads' HO379.out).2.2 | (with_reducible refine Kd.C_alloc ?_ _) | (with_reducible refine Kd.C_drewN ?_ _) | (with_reducible refine Kd.C_drew ?_))); (case side2 => exact (Kd.S_reads' HO379.out).2.1); (case side3 => repeat (first | exact (Kd.S_reads' HO356.out).2.2 | (with_reducible refine Kd.C_alloc ?_ _) | (with_reducible refine Kd.C_drewN ?_ _) | (with_reducible refine Kd.C_drew ?_))); (case side4 => exact (Kd.S_reads' HO356.out).2.1); rintro e w52 ⟨rfl, hb⟩; refine ⟨_, rfl, ?_⟩; have n0_ := Aside0.mk (Kd.S_below (by (with_reducible repeat (first | apply Kd.S_alloc | apply Kd.S_drewN | apply Kd.S_drew)); exact HO356.out) hb); have n1_ := Aside0.mk (Kd.S_below (by (with_reducible repeat (first | apply Kd.S_alloc | apply Kd.S_drewN | apply Kd.S_drew)); exact HO362.out) hb); have n2_ := Aside0.mk (Kd.S_below (by (with_reducible repeat (first | apply Kd.S_alloc | apply Kd.S_drewN | apply Kd.S_drew)); exact HO379.out) hb); have n3_ := Aside0.mk (below_step (by repeat (first | (with_reducible first | exact HB.out | apply below_alloc | apply pw_below_drewN | apply below_drew1) | exact HB.out)) hb); clear HO356; clear HO362; clear HO379; clear HB; have HO356 := n0_; have HO362 := n1_; have HO379 := n2_; have HB := n3_; clear n0_ n1_ n2_ n3_; (try clear hb); (try clear hb2); (try clear hk); (try clear hi)) | ((with_reducible refine gate_callee (f := 54) rfl ?_); refine goesL_ (some 63) rfl rfl Try.func54 (by kernel_rfl) rfl #[.slice Ao36 t372.length co36, .int .i64 1] rfl (by (try simp only [List.map_toArray, List.map_cons, List.map_nil]); first | done | (rw [show t372.length = t360.length from (Kd.S_reads' HO362.out).1.symm] <;> rfl) | rfl | (simp only [List.length_drop, List.length_take]; rfl)) ?_; (with_reducible refine (laws_heldAlarmS.calls k _ _ t372 1 t381 _ ?side1 ?side2 A26.out).mono ?_); (case side1 => repeat (first | exact (Kd.S_reads' HO362.out).2.2 | (with_reducible refine Kd.C_alloc ?_ _) | (with_reducible refine Kd.C_drewN ?_ _) | (with_reducible refine Kd.C_drew ?_))); (case side2 => rw [show t372.length = t360.length from (Kd.S_reads' HO362.out).1.symm]; exact (Kd.S_reads' HO362.out).2.1); rintro e w53 ⟨rfl, hb⟩; refine ⟨_, rfl, ?_⟩; have n0_ := Aside0.mk (Kd.S_below (by (with_reducible repeat (first | apply Kd.S_alloc | apply Kd.S_drewN | apply Kd.S_drew)); exact HO362.out) hb); have n1_ := Aside0.mk (below_step (by repeat (first | (with_reducible first | exact HB.out | apply below_alloc | apply pw_below_drewN | apply below_drew1) | exact HB.out)) hb); clear HO362; clear HB; have HO362 := n0_; have HB := n1_; clear n0_ n1_; (try clear hb); (try clear hb2); (try clear hk); (try clear hi)))
           go_ret
           exact ⟨by first | rfl | (simp [errW_none, errW_some] <;> rfl) | (simp [*, errW_none, errW_some] <;> rfl), by repeat (first | (with_reducible first | exact HB.out | apply below_alloc | apply pw_below_drewN | apply below_drew1) | exact HB.out)⟩
          ·
           rw [if_neg c28] at H
           exact absurd H (by simp)
        ·
         replace c25 := Bool.eq_false_iff.mpr c25
         subst c25
         have H1 : (none) = some r := by rw [if_neg (show ¬ (false = true) by decide)] at H; exact H
         clear H
         have H := H1
         clear H1
         exact absurd H (by simp)
       ·
        rw [if_neg c21] at H
        exact absurd H (by simp)
     ·
      replace c17 := Bool.eq_false_iff.mpr c17
      subst c17
      have H1 : (none) = some r := by rw [if_neg (show ¬ (false = true) by decide)] at H; exact H
      clear H
      have H := H1
      clear H1
      exact absurd H (by simp)
   ·
    replace c13 := Bool.eq_false_iff.mpr c13
    subst c13
    have H1 : (none) = some r := by rw [if_neg (show ¬ (false = true) by decide)] at H; exact H
    clear H
    have H := H1
    clear H1
    exact absurd H (by simp)
  ·
   replace c10 := Bool.eq_false_iff.mpr c10
   subst c10
   have H1 : (none) = some r := by rw [if_neg (show ¬ (false = true) by decide)] at H; exact H
   clear H
   have H := H1
   clear H1
   exact absurd H (by simp)

end Go.Proofs.Yticgekgojgkbgaa.Print
end
section
namespace Go.Proofs.Yticgekgojgkbgaa.Print
open Go.RowKit Go.Proofs.YticgekgojgkbgaaV.PrintWords Go.Proofs.YticgekgojgkbgaaV.PrintLast Go.Proofs.YticgekgojgkbgaaV.PrintMore
set_option linter.unusedVariables false
/-- The pure statement of laws_FnExactAllAlarms. -/
noncomputable def laws_FnExactAllAlarms.Pure : Prop := ∀ (l0 : List (S52)), (l0.length ≤ maxLen ∧ ∀ y ∈ l0, B52 y) → ∃ k, laws_FnExactAllAlarms.f k l0 = some true
end Go.Proofs.Yticgekgojgkbgaa.Print
end
section
namespace Go.Proofs.Yticgekgojgkbgaa.Print
open Go.RowKit Go.Proofs.YticgekgojgkbgaaV.PrintWords Go.Proofs.YticgekgojgkbgaaV.PrintLast Go.Proofs.YticgekgojgkbgaaV.PrintMore
set_option linter.unusedVariables false
set_option linter.unusedSimpArgs false
theorem wrap_id {x : Int} (h1 : -9223372036854775808 ≤ x) (h2 : x ≤ 9223372036854775807) : wrap64 x = x := by unfold wrap64; omega
theorem wrap_up (n : Nat) (h : n < 9223372036854775807) : wrap64 ((n : Int) + 1) = ((n + 1 : Nat) : Int) := by unfold wrap64; omega
theorem set_mid {α : Type} (pre suf : List α) (y v : α) : (pre ++ y :: suf).set pre.length v = pre ++ v :: suf := by simp
theorem lt_mid {α : Type} (pre suf : List α) (y : α) : (pre.length : Int) < ((pre ++ y :: suf).length : Int) := by simp only [List.length_append, List.length_cons]; omega
theorem not_lt_end {α : Type} (pre : List α) : ¬ ((pre.length : Int) < ((pre ++ []).length : Int)) := by simp
theorem nn (n : Nat) : (0 : Int) ≤ (n : Int) := by omega
theorem mid_assoc {α : Type} (pre suf : List α) (y : α) : pre ++ y :: suf = (pre ++ [y]) ++ suf := by simp
end Go.Proofs.Yticgekgojgkbgaa.Print
end
section
namespace Go.Proofs.Yticgekgojgkbgaa.Print
open Go.RowKit Go.Proofs.YticgekgojgkbgaaV.PrintWords Go.Proofs.YticgekgojgkbgaaV.PrintLast Go.Proofs.YticgekgojgkbgaaV.PrintMore
set_option linter.unusedVariables false
set_option linter.unusedSimpArgs false
def cvLabel (x : S85) : S88 := ⟨x.f0, x.f1⟩
def WLabel (x : S85) : Prop := x.f0.size ≤ 1048576 ∧ x.f1.size ≤ 1048576
def WiLabel (x : S88) : Prop := x.f0.size ≤ 4000000 ∧ x.f1.size ≤ 4000000
theorem Wi_cvLabel {x : S85} (h : WLabel x) : WiLabel (cvLabel x) := ⟨Nat.le_trans h.1 (by decide), Nat.le_trans h.2 (by decide)⟩
theorem szLabel_ev (x : S85) (hB : B85 x) (n : Int) (h0 : 0 ≤ n) (h1 : n ≤ 1048576) : ∃ r, Ev (fun k => laws_szLabel.f x.f0 x.f1 n) r ∧ r ≤ n ∧ (0 ≤ r → WLabel x) := by
  have q1 : x.f0.size ≤ 9223372036854775807 := hB.1
  have e1 : wrap64 (n - (x.f0.size : Int)) = n - (x.f0.size : Int) := wrap_id (by omega) (by omega)
  by_cases c1 : n - (x.f0.size : Int) < 0
  · exact ⟨-1, ⟨0, fun k hk => by simp [laws_szLabel.f, e1, c1]⟩, by omega, by omega⟩
  have q2 : x.f1.size ≤ 9223372036854775807 := hB.2
  have e2 : wrap64 ((n - (x.f0.size : Int)) - (x.f1.size : Int)) = (n - (x.f0.size : Int)) - (x.f1.size : Int) := wrap_id (by omega) (by omega)
  by_cases c2 : (n - (x.f0.size : Int)) - (x.f1.size : Int) < 0
  · exact ⟨-1, ⟨0, fun k hk => by simp [laws_szLabel.f, e1, c1, e2, c2]⟩, by omega, by omega⟩
  exact ⟨((n - (x.f0.size : Int)) - (x.f1.size : Int)), ⟨0, fun k hk => by simp [laws_szLabel.f, e1, c1, e2, c2]⟩, by omega, fun _ => ⟨(by omega), (by omega)⟩⟩
theorem toLabel_ev (x : S85) (h : WLabel x) : Ev (fun k => laws_toLabel.f x.f0 x.f1) ((cvLabel x).f0, (cvLabel x).f1) := by
  exact ⟨0, fun k hk => by simp [laws_toLabel.f, cvLabel]⟩
theorem eqLabel_ev (x : S88) (h : WiLabel x) : Ev (fun k => laws_eqLabel.f x.f0 x.f1 x.f0 x.f1) true := by
  exact ⟨0, fun k hk => by simp [laws_eqLabel.f]⟩

end Go.Proofs.Yticgekgojgkbgaa.Print
end
section
namespace Go.Proofs.Yticgekgojgkbgaa.Print
open Go.RowKit Go.Proofs.YticgekgojgkbgaaV.PrintWords Go.Proofs.YticgekgojgkbgaaV.PrintLast Go.Proofs.YticgekgojgkbgaaV.PrintMore
set_option linter.unusedVariables false
set_option linter.unusedSimpArgs false
theorem rdmidLabell (pre suf : List S85) (y : S85) : rd_T85 (pre ++ y :: suf) (pre.length : Int) = y := by unfold rd_T85; simp
theorem rdmidLabeli (pre suf : List S88) (y : S88) : rd_T88 (pre ++ y :: suf) (pre.length : Int) = y := by unfold rd_T88; simp
theorem szLabelS_l0 : ∀ (suf pre : List S85) (n : Int), 0 ≤ n → n ≤ 1048576 → (∀ y ∈ suf, B85 y) → (pre ++ suf).length < 4611686018427387904 → ∃ r, Ev (fun k => laws_szLabelS.l0 k (pre ++ suf) n (pre.length : Int)) r ∧ r ≤ n ∧ (0 ≤ r → ∀ y ∈ suf, WLabel y)
  | [], pre, n, h0, h1, hB, h => by
    refine ⟨n, Ev.step (f := fun _ => some n) (fun k => ?_) (Ev.now _), Int.le_refl _, fun _ y hy => by cases hy⟩
    simp only [laws_szLabelS.l0]
    rw [if_neg (not_lt_end pre)]
  | y :: suf, pre, n, h0, h1, hB, h => by
    have hp : pre.length < 4611686018427387904 := by simp at h; omega
    have hy := hB y List.mem_cons_self
    obtain ⟨r1, g1, l1, w1⟩ := szLabel_ev y hy n h0 h1
    by_cases c : r1 < 0
    · refine ⟨-1, Ev.step (f := fun k => (laws_szLabel.f y.f0 y.f1 n).bind fun t => if t < 0 then some (-1) else laws_szLabelS.l0 k (pre ++ y :: suf) t (wrap64 ((pre.length : Int) + 1))) (fun k => ?_) (Ev.bind g1 ?_), by omega, by omega⟩
      · simp only [laws_szLabelS.l0]
        rw [if_pos (lt_mid pre suf y), if_pos (nn _), rdmidLabell]
      · simp only [if_pos c]
        exact Ev.now _
    · obtain ⟨r, g, hl, hw⟩ := szLabelS_l0 suf (pre ++ [y]) r1 (by omega) (by omega) (fun z hz => hB z (List.mem_cons_of_mem _ hz)) (by simpa using h)
      refine ⟨r, Ev.step (f := fun k => (laws_szLabel.f y.f0 y.f1 n).bind fun t => if t < 0 then some (-1) else laws_szLabelS.l0 k ((pre ++ [y]) ++ suf) t ((pre ++ [y]).length : Int)) (fun k => ?_) (Ev.bind g1 ?_), by omega, fun hr z hz => ?_⟩
      · simp only [laws_szLabelS.l0]
        rw [if_pos (lt_mid pre suf y), if_pos (nn _), rdmidLabell, wrap_up _ (by omega)]
        simp
      · simp only [if_neg c]
        exact g
      · rcases List.mem_cons.1 hz with rfl | hz
        · exact w1 (by omega)
        · exact hw hr z hz
theorem szLabelS_ev (l : List S85) (hB : l.length ≤ maxLen ∧ ∀ y ∈ l, B85 y) (n : Int) (h0 : 0 ≤ n) (h1 : n ≤ 1048576) : ∃ r, Ev (fun k => laws_szLabelS.f k l n) r ∧ r ≤ n ∧ (0 ≤ r → l.length ≤ 1048576 ∧ ∀ y ∈ l, WLabel y) := by
  have q : l.length ≤ 9223372036854775807 := hB.1
  have e : wrap64 (n - (l.length : Int)) = n - (l.length : Int) := wrap_id (by omega) (by omega)
  by_cases c : n - (l.length : Int) < 0
  · exact ⟨-1, ⟨0, fun k _ => by simp [laws_szLabelS.f, e, c]⟩, by omega, by omega⟩
  · obtain ⟨r, g, hl, hw⟩ := szLabelS_l0 l [] (n - (l.length : Int)) (by omega) (by omega) hB.2 (by simp; omega)
    refine ⟨r, Ev.congr (fun k => ?_) g, by omega, fun hr => ⟨by omega, hw hr⟩⟩
    unfold laws_szLabelS.f
    rw [e, if_neg c]
    rfl
theorem toLabelS_l0 : ∀ (suf pre : List S85), (pre ++ suf).length < 4611686018427387904 → (∀ y ∈ suf, WLabel y) → Ev (fun k => laws_toLabelS.l0 k (pre ++ suf) ((pre.map cvLabel) ++ List.replicate suf.length z88) (pre.length : Int)) ((pre ++ suf).map cvLabel)
  | [], pre, h, hW => by
    refine Ev.step (f := fun _ => some ((pre ++ []).map cvLabel)) (fun k => ?_) (Ev.now _)
    simp only [laws_toLabelS.l0]
    rw [if_neg (not_lt_end pre)]
    simp
  | y :: suf, pre, h, hW => by
    have hp : pre.length < 4611686018427387904 := by simp at h; omega
    have ih := toLabelS_l0 suf (pre ++ [y]) (by simpa using h) (fun z hz => hW z (List.mem_cons_of_mem _ hz))
    have g := toLabel_ev y (hW y List.mem_cons_self)
    refine Ev.step (f := fun k => (laws_toLabel.f y.f0 y.f1).bind fun t => laws_toLabelS.l0 k ((pre ++ [y]) ++ suf) ((pre.map cvLabel) ++ (⟨t.1, t.2⟩ : S88) :: List.replicate suf.length z88) ((pre ++ [y]).length : Int)) (fun k => ?_) (Ev.bind g ?_)
    · simp only [laws_toLabelS.l0]
      rw [if_pos (lt_mid pre suf y), if_pos (nn _), rdmidLabell, wrap_up _ (by omega)]
      congr 1
      funext t
      rw [if_pos (by simp; omega)]
      congr 1
      · simp
      · simp [List.replicate_succ]
      · simp
    · rw [mid_assoc pre suf y]
      have e : (pre.map cvLabel) ++ (cvLabel y) :: List.replicate suf.length z88 = ((pre ++ [y]).map cvLabel) ++ List.replicate suf.length z88 := by simp
      rw [← e] at ih
      exact ih
theorem toLabelS_ev (l : List S85) (h : l.length ≤ 1048576 ∧ ∀ y ∈ l, WLabel y) : Ev (fun k => laws_toLabelS.f k l) (l.map cvLabel) := by
  have h1 := h.1
  refine Ev.congr (fun k => ?_) (toLabelS_l0 l [] (by simp; omega) h.2)
  unfold laws_toLabelS.f
  rw [if_pos (nn l.length), Int.toNat_natCast, if_pos (by omega)]
  rfl
theorem eqLabelS_l0 : ∀ (suf pre : List S88), (pre ++ suf).length < 4611686018427387904 → (∀ y ∈ suf, WiLabel y) → Ev (fun k => laws_eqLabelS.l0 k (pre ++ suf) (pre ++ suf) (pre.length : Int)) true
  | [], pre, h, hW => by
    refine Ev.step (f := fun _ => some true) (fun k => ?_) (Ev.now _)
    simp only [laws_eqLabelS.l0]
    rw [if_neg (not_lt_end pre)]
  | y :: suf, pre, h, hW => by
    have hp : pre.length < 4611686018427387904 := by simp at h; omega
    have ih := eqLabelS_l0 suf (pre ++ [y]) (by simpa using h) (fun z hz => hW z (List.mem_cons_of_mem _ hz))
    have g := eqLabel_ev y (hW y List.mem_cons_self)
    refine Ev.step (f := fun k => (laws_eqLabel.f y.f0 y.f1 y.f0 y.f1).bind fun t => if t = true then laws_eqLabelS.l0 k ((pre ++ [y]) ++ suf) ((pre ++ [y]) ++ suf) ((pre ++ [y]).length : Int) else none) (fun k => ?_) (Ev.bind g ?_)
    · simp only [laws_eqLabelS.l0]
      rw [if_pos (lt_mid pre suf y), if_pos (nn _), if_pos (lt_mid pre suf y), rdmidLabeli, wrap_up _ (by omega)]
      simp
    · simp only [if_true]
      exact ih
theorem eqLabelS_ev (l : List S88) (h : l.length ≤ 4000000 ∧ ∀ y ∈ l, WiLabel y) : Ev (fun k => laws_eqLabelS.f k l l) true := by
  have h1 := h.1
  refine Ev.congr (fun k => ?_) (eqLabelS_l0 l [] (by simp; omega) h.2)
  unfold laws_eqLabelS.f
  rw [if_pos rfl]
  rfl

end Go.Proofs.Yticgekgojgkbgaa.Print
end
section
namespace Go.Proofs.Yticgekgojgkbgaa.Print
open Go.RowKit Go.Proofs.YticgekgojgkbgaaV.PrintWords Go.Proofs.YticgekgojgkbgaaV.PrintLast Go.Proofs.YticgekgojgkbgaaV.PrintMore
set_option linter.unusedVariables false
set_option linter.unusedSimpArgs false
def cvAlarm (x : S35) : S43 := ⟨(x.f0.map cvLabel), x.f1, x.f2, x.f3⟩
def WAlarm (x : S35) : Prop := (x.f0.length ≤ 1048576 ∧ ∀ y ∈ x.f0, WLabel y) ∧ True ∧ True ∧ x.f3.size ≤ 1048576
def WiAlarm (x : S43) : Prop := (x.f0.length ≤ 4000000 ∧ ∀ y ∈ x.f0, WiLabel y) ∧ True ∧ True ∧ x.f3.size ≤ 4000000
theorem Wi_cvAlarm {x : S35} (h : WAlarm x) : WiAlarm (cvAlarm x) := ⟨⟨by show (List.map cvLabel x.f0).length ≤ 4000000; rw [List.length_map]; exact Nat.le_trans h.1.1 (by decide), fun y hy => by obtain ⟨z, hz, rfl⟩ := List.mem_map.1 hy; exact Wi_cvLabel (h.1.2 z hz)⟩, trivial, trivial, Nat.le_trans h.2.2.2 (by decide)⟩
theorem szAlarm_ev (x : S35) (hB : B35 x) (n : Int) (h0 : 0 ≤ n) (h1 : n ≤ 1048576) : ∃ r, Ev (fun k => laws_szAlarm.f k x.f0 x.f1 x.f2 x.f3 n) r ∧ r ≤ n ∧ (0 ≤ r → WAlarm x) := by
  obtain ⟨r1, ⟨K1, g1⟩, l1, w1⟩ := szLabelS_ev x.f0 hB.1 n (by omega) (by omega)
  by_cases c1 : r1 < 0
  · exact ⟨-1, ⟨K1, fun k hk => by simp [laws_szAlarm.f, g1 k (by omega), c1]⟩, by omega, by omega⟩
  have q2 : x.f3.size ≤ 9223372036854775807 := hB.2.2.2
  have e2 : wrap64 (r1 - (x.f3.size : Int)) = r1 - (x.f3.size : Int) := wrap_id (by omega) (by omega)
  by_cases c2 : r1 - (x.f3.size : Int) < 0
  · exact ⟨-1, ⟨K1, fun k hk => by simp [laws_szAlarm.f, g1 k (by omega), c1, e2, c2]⟩, by omega, by omega⟩
  exact ⟨(r1 - (x.f3.size : Int)), ⟨K1, fun k hk => by simp [laws_szAlarm.f, g1 k (by omega), c1, e2, c2]⟩, by omega, fun _ => ⟨(w1 (by omega)), trivial, trivial, (by omega)⟩⟩
theorem toAlarm_ev (x : S35) (h : WAlarm x) : Ev (fun k => laws_toAlarm.f k x.f0 x.f1 x.f2 x.f3) ((cvAlarm x).f0, (cvAlarm x).f1, (cvAlarm x).f2, (cvAlarm x).f3) := by
  obtain ⟨K0, g0⟩ := toLabelS_ev x.f0 h.1
  exact ⟨K0, fun k hk => by simp [laws_toAlarm.f, cvAlarm, g0 k (by omega)]⟩
theorem eqAlarm_ev (x : S43) (h : WiAlarm x) : Ev (fun k => laws_eqAlarm.f k x.f0 x.f1 x.f2 x.f3 x.f0 x.f1 x.f2 x.f3) true := by
  obtain ⟨K0, g0⟩ := eqLabelS_ev x.f0 h.1
  exact ⟨K0, fun k hk => by simp [laws_eqAlarm.f, g0 k (by omega)]⟩

end Go.Proofs.Yticgekgojgkbgaa.Print
end
section
namespace Go.Proofs.Yticgekgojgkbgaa.Print
open Go.RowKit Go.Proofs.YticgekgojgkbgaaV.PrintWords Go.Proofs.YticgekgojgkbgaaV.PrintLast Go.Proofs.YticgekgojgkbgaaV.PrintMore
set_option linter.unusedVariables false
set_option linter.unusedSimpArgs false
theorem rdmidAlarml (pre suf : List S35) (y : S35) : rd_T35 (pre ++ y :: suf) (pre.length : Int) = y := by unfold rd_T35; simp
theorem rdmidAlarmi (pre suf : List S43) (y : S43) : rd_T43 (pre ++ y :: suf) (pre.length : Int) = y := by unfold rd_T43; simp
theorem szAlarmS_l0 : ∀ (suf pre : List S35) (n : Int), 0 ≤ n → n ≤ 1048576 → (∀ y ∈ suf, B35 y) → (pre ++ suf).length < 4611686018427387904 → ∃ r, Ev (fun k => laws_szAlarmS.l0 k (pre ++ suf) n (pre.length : Int)) r ∧ r ≤ n ∧ (0 ≤ r → ∀ y ∈ suf, WAlarm y)
  | [], pre, n, h0, h1, hB, h => by
    refine ⟨n, Ev.step (f := fun _ => some n) (fun k => ?_) (Ev.now _), Int.le_refl _, fun _ y hy => by cases hy⟩
    simp only [laws_szAlarmS.l0]
    rw [if_neg (not_lt_end pre)]
  | y :: suf, pre, n, h0, h1, hB, h => by
    have hp : pre.length < 4611686018427387904 := by simp at h; omega
    have hy := hB y List.mem_cons_self
    obtain ⟨r1, g1, l1, w1⟩ := szAlarm_ev y hy n h0 h1
    by_cases c : r1 < 0
    · refine ⟨-1, Ev.step (f := fun k => (laws_szAlarm.f k y.f0 y.f1 y.f2 y.f3 n).bind fun t => if t < 0 then some (-1) else laws_szAlarmS.l0 k (pre ++ y :: suf) t (wrap64 ((pre.length : Int) + 1))) (fun k => ?_) (Ev.bind g1 ?_), by omega, by omega⟩
      · simp only [laws_szAlarmS.l0]
        rw [if_pos (lt_mid pre suf y), if_pos (nn _), rdmidAlarml]
      · simp only [if_pos c]
        exact Ev.now _
    · obtain ⟨r, g, hl, hw⟩ := szAlarmS_l0 suf (pre ++ [y]) r1 (by omega) (by omega) (fun z hz => hB z (List.mem_cons_of_mem _ hz)) (by simpa using h)
      refine ⟨r, Ev.step (f := fun k => (laws_szAlarm.f k y.f0 y.f1 y.f2 y.f3 n).bind fun t => if t < 0 then some (-1) else laws_szAlarmS.l0 k ((pre ++ [y]) ++ suf) t ((pre ++ [y]).length : Int)) (fun k => ?_) (Ev.bind g1 ?_), by omega, fun hr z hz => ?_⟩
      · simp only [laws_szAlarmS.l0]
        rw [if_pos (lt_mid pre suf y), if_pos (nn _), rdmidAlarml, wrap_up _ (by omega)]
        simp
      · simp only [if_neg c]
        exact g
      · rcases List.mem_cons.1 hz with rfl | hz
        · exact w1 (by omega)
        · exact hw hr z hz
theorem szAlarmS_ev (l : List S35) (hB : l.length ≤ maxLen ∧ ∀ y ∈ l, B35 y) (n : Int) (h0 : 0 ≤ n) (h1 : n ≤ 1048576) : ∃ r, Ev (fun k => laws_szAlarmS.f k l n) r ∧ r ≤ n ∧ (0 ≤ r → l.length ≤ 1048576 ∧ ∀ y ∈ l, WAlarm y) := by
  have q : l.length ≤ 9223372036854775807 := hB.1
  have e : wrap64 (n - (l.length : Int)) = n - (l.length : Int) := wrap_id (by omega) (by omega)
  by_cases c : n - (l.length : Int) < 0
  · exact ⟨-1, ⟨0, fun k _ => by simp [laws_szAlarmS.f, e, c]⟩, by omega, by omega⟩
  · obtain ⟨r, g, hl, hw⟩ := szAlarmS_l0 l [] (n - (l.length : Int)) (by omega) (by omega) hB.2 (by simp; omega)
    refine ⟨r, Ev.congr (fun k => ?_) g, by omega, fun hr => ⟨by omega, hw hr⟩⟩
    unfold laws_szAlarmS.f
    rw [e, if_neg c]
    rfl
theorem toAlarmS_l0 : ∀ (suf pre : List S35), (pre ++ suf).length < 4611686018427387904 → (∀ y ∈ suf, WAlarm y) → Ev (fun k => laws_toAlarmS.l0 k (pre ++ suf) ((pre.map cvAlarm) ++ List.replicate suf.length z43) (pre.length : Int)) ((pre ++ suf).map cvAlarm)
  | [], pre, h, hW => by
    refine Ev.step (f := fun _ => some ((pre ++ []).map cvAlarm)) (fun k => ?_) (Ev.now _)
    simp only [laws_toAlarmS.l0]
    rw [if_neg (not_lt_end pre)]
    simp
  | y :: suf, pre, h, hW => by
    have hp : pre.length < 4611686018427387904 := by simp at h; omega
    have ih := toAlarmS_l0 suf (pre ++ [y]) (by simpa using h) (fun z hz => hW z (List.mem_cons_of_mem _ hz))
    have g := toAlarm_ev y (hW y List.mem_cons_self)
    refine Ev.step (f := fun k => (laws_toAlarm.f k y.f0 y.f1 y.f2 y.f3).bind fun t => laws_toAlarmS.l0 k ((pre ++ [y]) ++ suf) ((pre.map cvAlarm) ++ (⟨t.1, t.2.1, t.2.2.1, t.2.2.2⟩ : S43) :: List.replicate suf.length z43) ((pre ++ [y]).length : Int)) (fun k => ?_) (Ev.bind g ?_)
    · simp only [laws_toAlarmS.l0]
      rw [if_pos (lt_mid pre suf y), if_pos (nn _), rdmidAlarml, wrap_up _ (by omega)]
      congr 1
      funext t
      rw [if_pos (by simp; omega)]
      congr 1
      · simp
      · simp [List.replicate_succ]
      · simp
    · rw [mid_assoc pre suf y]
      have e : (pre.map cvAlarm) ++ (cvAlarm y) :: List.replicate suf.length z43 = ((pre ++ [y]).map cvAlarm) ++ List.replicate suf.length z43 := by simp
      rw [← e] at ih
      exact ih
theorem toAlarmS_ev (l : List S35) (h : l.length ≤ 1048576 ∧ ∀ y ∈ l, WAlarm y) : Ev (fun k => laws_toAlarmS.f k l) (l.map cvAlarm) := by
  have h1 := h.1
  refine Ev.congr (fun k => ?_) (toAlarmS_l0 l [] (by simp; omega) h.2)
  unfold laws_toAlarmS.f
  rw [if_pos (nn l.length), Int.toNat_natCast, if_pos (by omega)]
  rfl
theorem eqAlarmS_l0 : ∀ (suf pre : List S43), (pre ++ suf).length < 4611686018427387904 → (∀ y ∈ suf, WiAlarm y) → Ev (fun k => laws_eqAlarmS.l0 k (pre ++ suf) (pre ++ suf) (pre.length : Int)) true
  | [], pre, h, hW => by
    refine Ev.step (f := fun _ => some true) (fun k => ?_) (Ev.now _)
    simp only [laws_eqAlarmS.l0]
    rw [if_neg (not_lt_end pre)]
  | y :: suf, pre, h, hW => by
    have hp : pre.length < 4611686018427387904 := by simp at h; omega
    have ih := eqAlarmS_l0 suf (pre ++ [y]) (by simpa using h) (fun z hz => hW z (List.mem_cons_of_mem _ hz))
    have g := eqAlarm_ev y (hW y List.mem_cons_self)
    refine Ev.step (f := fun k => (laws_eqAlarm.f k y.f0 y.f1 y.f2 y.f3 y.f0 y.f1 y.f2 y.f3).bind fun t => if t = true then laws_eqAlarmS.l0 k ((pre ++ [y]) ++ suf) ((pre ++ [y]) ++ suf) ((pre ++ [y]).length : Int) else none) (fun k => ?_) (Ev.bind g ?_)
    · simp only [laws_eqAlarmS.l0]
      rw [if_pos (lt_mid pre suf y), if_pos (nn _), if_pos (lt_mid pre suf y), rdmidAlarmi, wrap_up _ (by omega)]
      simp
    · simp only [if_true]
      exact ih
theorem eqAlarmS_ev (l : List S43) (h : l.length ≤ 4000000 ∧ ∀ y ∈ l, WiAlarm y) : Ev (fun k => laws_eqAlarmS.f k l l) true := by
  have h1 := h.1
  refine Ev.congr (fun k => ?_) (eqAlarmS_l0 l [] (by simp; omega) h.2)
  unfold laws_eqAlarmS.f
  rw [if_pos rfl]
  rfl

end Go.Proofs.Yticgekgojgkbgaa.Print
end
section
namespace Go.Proofs.Yticgekgojgkbgaa.Print
open Go.RowKit Go.Proofs.YticgekgojgkbgaaV.PrintWords Go.Proofs.YticgekgojgkbgaaV.PrintLast Go.Proofs.YticgekgojgkbgaaV.PrintMore
set_option linter.unusedVariables false
set_option linter.unusedSimpArgs false
theorem markText_l0 : ∀ (n : Nat) (x : Int) (acc : ByteArray), 0 ≤ x → x.toNat = n → acc.size + n < 4611686018427387904 → ∃ s, Ev (fun k => laws_markText.l0 k x acc) s := by
  intro n
  induction n using Nat.strongRecOn with
  | _ n ih =>
    intro x acc h0 hx hs
    by_cases c : x > 0
    · have e : wrap64 (Int.tdiv x 10) = x / 10 := by rw [Int.tdiv_eq_ediv_of_nonneg h0]; exact wrap_id (by omega) (by omega)
      have hz : (strOfNums [(wrap64 (48 + (Int.tmod x 10))) % 256]).size = 1 := by rw [strOfNums_size]; rfl
      have hsz : ((strOfNums [(wrap64 (48 + (Int.tmod x 10))) % 256]) ++ acc).size = 1 + acc.size := by rw [ByteArray.size_append, hz]
      obtain ⟨s, g⟩ := ih (x / 10).toNat (by omega) (x / 10) ((strOfNums [(wrap64 (48 + (Int.tmod x 10))) % 256]) ++ acc) (by omega) rfl (by rw [hsz]; omega)
      refine ⟨s, Ev.step (fun k => ?_) g⟩
      simp only [laws_markText.l0]
      rw [if_pos c, Option.bind_some, if_pos (by rw [hz]; omega), e]
    · refine ⟨(⟨#[109]⟩ : ByteArray) ++ acc, Ev.step (f := fun _ => some ((⟨#[109]⟩ : ByteArray) ++ acc)) (fun k => ?_) (Ev.now _)⟩
      simp only [laws_markText.l0]
      rw [if_neg c, if_pos (by omega)]
theorem markText_some (x : Int) (h0 : 0 ≤ x) (h1 : x < 4611686018427387904) : ∃ s, Ev (fun k => laws_markText.f k x) s := by
  by_cases c : x ≤ 0
  · exact ⟨⟨#[109, 48]⟩, 0, fun k _ => by show laws_markText.f k x = _; unfold laws_markText.f; exact if_pos c⟩
  · obtain ⟨s, g⟩ := markText_l0 x.toNat x ⟨#[]⟩ h0 rfl (by have : (⟨#[]⟩ : ByteArray).size = 0 := rfl; omega)
    exact ⟨s, Ev.congr (fun k => by show laws_markText.f k x = laws_markText.l0 k x ⟨#[]⟩; unfold laws_markText.f; exact if_neg c) g⟩
open Classical in
noncomputable def mkText (x : Int) : ByteArray := if h : ∃ s, Ev (fun k => laws_markText.f k x) s then h.choose else ⟨#[]⟩
theorem markText_ev (x : Int) (h0 : 0 ≤ x) (h1 : x < 4611686018427387904) : Ev (fun k => laws_markText.f k x) (mkText x) := by
  have h := markText_some x h0 h1
  unfold mkText
  rw [dif_pos h]
  exact h.choose_spec

end Go.Proofs.Yticgekgojgkbgaa.Print
end
section
namespace Go.Proofs.Yticgekgojgkbgaa.Print
open Go.RowKit Go.Proofs.YticgekgojgkbgaaV.PrintWords Go.Proofs.YticgekgojgkbgaaV.PrintLast Go.Proofs.YticgekgojgkbgaaV.PrintMore
set_option linter.unusedVariables false
set_option linter.unusedSimpArgs false
def cnLabels : List S88 → Nat
  | [] => 0
  | _ :: ys => 2 + cnLabels ys
noncomputable def mkLabels : Int → List S88 → List S88
  | _, [] => []
  | k0, _ :: ys => ⟨mkText k0, mkText (k0 + 1)⟩ :: mkLabels (k0 + 2) ys
theorem cnLabels_le : ∀ (l : List S88), l.length ≤ cnLabels l
  | [] => Nat.le_refl _
  | y :: ys => by have := cnLabels_le ys; simp only [cnLabels, List.length_cons]; omega
theorem rdmmLabel (pre suf : List S88) (y : S88) : rd_T88 (pre ++ y :: suf) (pre.length : Int) = y := by unfold rd_T88; simp
theorem markLabelS_l0 : ∀ (suf pre : List S88) (k0 : Int), 0 ≤ k0 → k0 + (cnLabels suf : Int) < 4611686018427387904 → (pre ++ suf).length < 4611686018427387904 → Ev (fun k => laws_markLabelS.l0 k (pre ++ suf) k0 (pre.length : Int)) (k0 + (cnLabels suf : Int), pre ++ mkLabels k0 suf)
  | [], pre, k0, h0, h1, h => by
    refine Ev.step (f := fun _ => some (k0, pre ++ [])) (fun k => ?_) (by rw [show (k0 + (cnLabels [] : Int), pre ++ mkLabels k0 []) = (k0, pre ++ []) from by simp [cnLabels, mkLabels]]; exact Ev.now _)
    simp only [laws_markLabelS.l0]
    rw [if_neg (not_lt_end pre)]
  | y :: suf, pre, k0, h0, h1, h => by
    have hp : pre.length < 4611686018427387904 := by simp at h; omega
    have hc : cnLabels (y :: suf) = 2 + cnLabels suf := rfl
    rw [hc] at h1 ⊢
    obtain ⟨K, g⟩ := markLabelS_l0 suf (pre ++ [(⟨mkText k0, mkText (k0 + 1)⟩ : S88)]) (k0 + 2) (by omega) (by omega) (by simpa using h)
    obtain ⟨K0, g0⟩ := markText_ev k0 (by omega) (by omega)
    obtain ⟨K1, g1⟩ := markText_ev (k0 + 1) (by omega) (by omega)
    refine ⟨K + K0 + K1 + 1, fun k hk => ?_⟩
    obtain ⟨k, rfl⟩ : ∃ m, k = m + 1 := ⟨k - 1, by omega⟩
    have G := g k (by omega)
    have G0 := g0 k (by omega)
    have G1 := g1 k (by omega)
    dsimp only at G G0 G1
    have w0 : wrap64 (k0 + 1) = (k0 + 1) := (wrap_id (by omega) (by omega)).trans (by omega)
    have w1 : wrap64 ((k0 + 1) + 1) = (k0 + 2) := (wrap_id (by omega) (by omega)).trans (by omega)
    simp only [laws_markLabelS.l0]
    rw [if_pos (lt_mid pre suf y)]
    simp only [nn, if_true, rdmmLabel, Option.bind_some, Int.toNat_natCast, set_mid, wrap_up pre.length (by omega), G0, G1, w0, w1]
    have eL : pre ++ (⟨mkText k0, mkText (k0 + 1)⟩ : S88) :: suf = (pre ++ [(⟨mkText k0, mkText (k0 + 1)⟩ : S88)]) ++ suf := by simp
    have eN : ((pre.length + 1 : Nat) : Int) = ((pre ++ [(⟨mkText k0, mkText (k0 + 1)⟩ : S88)]).length : Int) := by simp
    rw [eL, eN, G]
    refine congrArg some (Prod.ext ?_ ?_)
    · simp only []; push_cast; omega
    · simp [mkLabels]
theorem markLabelS_ev (l : List S88) (k0 : Int) (h0 : 0 ≤ k0) (h1 : k0 + (cnLabels l : Int) < 4611686018427387904) : Ev (fun k => laws_markLabelS.f k l k0) (k0 + (cnLabels l : Int), mkLabels k0 l) := by
  have := cnLabels_le l
  exact Ev.congr (fun k => by unfold laws_markLabelS.f; rfl) (markLabelS_l0 l [] k0 h0 h1 (by simp; omega))
theorem heldLabelS_l0 : ∀ (suf pre : List S88) (k0 : Int), 0 ≤ k0 → k0 + (cnLabels suf : Int) < 4611686018427387904 → (pre ++ suf).length < 4611686018427387904 → Ev (fun k => laws_heldLabelS.l0 k (pre ++ mkLabels k0 suf) k0 (pre.length : Int)) (k0 + (cnLabels suf : Int))
  | [], pre, k0, h0, h1, h => by
    refine Ev.step (f := fun _ => some k0) (fun k => ?_) (by simpa [cnLabels] using Ev.now k0)
    rw [show mkLabels k0 [] = [] from rfl]
    simp only [laws_heldLabelS.l0]
    rw [if_neg (not_lt_end pre)]
  | y :: suf, pre, k0, h0, h1, h => by
    have hp : pre.length < 4611686018427387904 := by simp at h; omega
    have hc : cnLabels (y :: suf) = 2 + cnLabels suf := rfl
    rw [hc] at h1 ⊢
    obtain ⟨K, g⟩ := heldLabelS_l0 suf (pre ++ [(⟨mkText k0, mkText (k0 + 1)⟩ : S88)]) (k0 + 2) (by omega) (by omega) (by simpa using h)
    obtain ⟨K0, g0⟩ := markText_ev k0 (by omega) (by omega)
    obtain ⟨K1, g1⟩ := markText_ev (k0 + 1) (by omega) (by omega)
    refine ⟨K + K0 + K1 + 1, fun k hk => ?_⟩
    obtain ⟨k, rfl⟩ : ∃ m, k = m + 1 := ⟨k - 1, by omega⟩
    have G := g k (by omega)
    have G0 := g0 k (by omega)
    have G1 := g1 k (by omega)
    dsimp only at G G0 G1
    have w0 : wrap64 (k0 + 1) = (k0 + 1) := (wrap_id (by omega) (by omega)).trans (by omega)
    have w1 : wrap64 ((k0 + 1) + 1) = (k0 + 2) := (wrap_id (by omega) (by omega)).trans (by omega)
    rw [show mkLabels k0 (y :: suf) = ⟨mkText k0, mkText (k0 + 1)⟩ :: mkLabels (k0 + 2) suf from rfl]
    simp only [laws_heldLabelS.l0]
    rw [if_pos (lt_mid pre _ _)]
    simp only [nn, if_true, if_false, rdmmLabel, Option.bind_some, wrap_up pre.length (by omega), G0, G1, w0, w1, bne_self_eq_false, Bool.false_eq_true]
    have eL : pre ++ (⟨mkText k0, mkText (k0 + 1)⟩ : S88) :: mkLabels (k0 + 2) suf = (pre ++ [(⟨mkText k0, mkText (k0 + 1)⟩ : S88)]) ++ mkLabels (k0 + 2) suf := by simp
    have eN : ((pre.length + 1 : Nat) : Int) = ((pre ++ [(⟨mkText k0, mkText (k0 + 1)⟩ : S88)]).length : Int) := by simp
    rw [eL, eN, G]
    refine congrArg some ?_
    push_cast; omega
theorem heldLabelS_ev (l : List S88) (k0 : Int) (h0 : 0 ≤ k0) (h1 : k0 + (cnLabels l : Int) < 4611686018427387904) : Ev (fun k => laws_heldLabelS.f k (mkLabels k0 l) k0) (k0 + (cnLabels l : Int)) := by
  have := cnLabels_le l
  exact Ev.congr (fun k => by unfold laws_heldLabelS.f; rfl) (heldLabelS_l0 l [] k0 h0 h1 (by simp; omega))

end Go.Proofs.Yticgekgojgkbgaa.Print
end
section
namespace Go.Proofs.Yticgekgojgkbgaa.Print
open Go.RowKit Go.Proofs.YticgekgojgkbgaaV.PrintWords Go.Proofs.YticgekgojgkbgaaV.PrintLast Go.Proofs.YticgekgojgkbgaaV.PrintMore
set_option linter.unusedVariables false
set_option linter.unusedSimpArgs false
def cnAlarms : List S43 → Nat
  | [] => 0
  | y :: ys => cnLabels y.f0 + 3 + cnAlarms ys
noncomputable def mkAlarms : Int → List S43 → List S43
  | _, [] => []
  | k0, y :: ys => ⟨mkLabels k0 y.f0, (k0 + (cnLabels y.f0 : Int)), (k0 + (cnLabels y.f0 : Int) + 1), mkText (k0 + (cnLabels y.f0 : Int) + 2)⟩ :: mkAlarms (k0 + (cnLabels y.f0 : Int) + 3) ys
theorem cnAlarms_le : ∀ (l : List S43), l.length ≤ cnAlarms l
  | [] => Nat.le_refl _
  | y :: ys => by have := cnAlarms_le ys; simp only [cnAlarms, List.length_cons]; omega
theorem rdmmAlarm (pre suf : List S43) (y : S43) : rd_T43 (pre ++ y :: suf) (pre.length : Int) = y := by unfold rd_T43; simp
theorem markAlarmS_l0 : ∀ (suf pre : List S43) (k0 : Int), 0 ≤ k0 → k0 + (cnAlarms suf : Int) < 4611686018427387904 → (pre ++ suf).length < 4611686018427387904 → Ev (fun k => laws_markAlarmS.l0 k (pre ++ suf) k0 (pre.length : Int)) (k0 + (cnAlarms suf : Int), pre ++ mkAlarms k0 suf)
  | [], pre, k0, h0, h1, h => by
    refine Ev.step (f := fun _ => some (k0, pre ++ [])) (fun k => ?_) (by rw [show (k0 + (cnAlarms [] : Int), pre ++ mkAlarms k0 []) = (k0, pre ++ []) from by simp [cnAlarms, mkAlarms]]; exact Ev.now _)
    simp only [laws_markAlarmS.l0]
    rw [if_neg (not_lt_end pre)]
  | y :: suf, pre, k0, h0, h1, h => by
    have hp : pre.length < 4611686018427387904 := by simp at h; omega
    have hc : cnAlarms (y :: suf) = cnLabels y.f0 + 3 + cnAlarms suf := rfl
    rw [hc] at h1 ⊢
    obtain ⟨K, g⟩ := markAlarmS_l0 suf (pre ++ [(⟨mkLabels k0 y.f0, (k0 + (cnLabels y.f0 : Int)), (k0 + (cnLabels y.f0 : Int) + 1), mkText (k0 + (cnLabels y.f0 : Int) + 2)⟩ : S43)]) (k0 + (cnLabels y.f0 : Int) + 3) (by omega) (by omega) (by simpa using h)
    obtain ⟨K0, g0⟩ := markLabelS_ev y.f0 k0 (by omega) (by omega)
    obtain ⟨K1, g1⟩ := markText_ev (k0 + (cnLabels y.f0 : Int) + 2) (by omega) (by omega)
    refine ⟨K + K0 + K1 + 1, fun k hk => ?_⟩
    obtain ⟨k, rfl⟩ : ∃ m, k = m + 1 := ⟨k - 1, by omega⟩
    have G := g k (by omega)
    have G0 := g0 k (by omega)
    have G1 := g1 k (by omega)
    dsimp only at G G0 G1
    have w1 : wrap64 ((k0 + (cnLabels y.f0 : Int)) + 1) = (k0 + (cnLabels y.f0 : Int) + 1) := (wrap_id (by omega) (by omega)).trans (by omega)
    have w2 : wrap64 ((k0 + (cnLabels y.f0 : Int) + 1) + 1) = (k0 + (cnLabels y.f0 : Int) + 2) := (wrap_id (by omega) (by omega)).trans (by omega)
    have w3 : wrap64 ((k0 + (cnLabels y.f0 : Int) + 2) + 1) = (k0 + (cnLabels y.f0 : Int) + 3) := (wrap_id (by omega) (by omega)).trans (by omega)
    simp only [laws_markAlarmS.l0]
    rw [if_pos (lt_mid pre suf y)]
    simp only [nn, if_true, rdmmAlarm, Option.bind_some, Int.toNat_natCast, set_mid, wrap_up pre.length (by omega), G0, G1, w1, w2, w3]
    have eL : pre ++ (⟨mkLabels k0 y.f0, (k0 + (cnLabels y.f0 : Int)), (k0 + (cnLabels y.f0 : Int) + 1), mkText (k0 + (cnLabels y.f0 : Int) + 2)⟩ : S43) :: suf = (pre ++ [(⟨mkLabels k0 y.f0, (k0 + (cnLabels y.f0 : Int)), (k0 + (cnLabels y.f0 : Int) + 1), mkText (k0 + (cnLabels y.f0 : Int) + 2)⟩ : S43)]) ++ suf := by simp
    have eN : ((pre.length + 1 : Nat) : Int) = ((pre ++ [(⟨mkLabels k0 y.f0, (k0 + (cnLabels y.f0 : Int)), (k0 + (cnLabels y.f0 : Int) + 1), mkText (k0 + (cnLabels y.f0 : Int) + 2)⟩ : S43)]).length : Int) := by simp
    rw [eL, eN, G]
    refine congrArg some (Prod.ext ?_ ?_)
    · simp only []; push_cast; omega
    · simp [mkAlarms]
theorem markAlarmS_ev (l : List S43) (k0 : Int) (h0 : 0 ≤ k0) (h1 : k0 + (cnAlarms l : Int) < 4611686018427387904) : Ev (fun k => laws_markAlarmS.f k l k0) (k0 + (cnAlarms l : Int), mkAlarms k0 l) := by
  have := cnAlarms_le l
  exact Ev.congr (fun k => by unfold laws_markAlarmS.f; rfl) (markAlarmS_l0 l [] k0 h0 h1 (by simp; omega))
theorem heldAlarmS_l0 : ∀ (suf pre : List S43) (k0 : Int), 0 ≤ k0 → k0 + (cnAlarms suf : Int) < 4611686018427387904 → (pre ++ suf).length < 4611686018427387904 → Ev (fun k => laws_heldAlarmS.l0 k (pre ++ mkAlarms k0 suf) k0 (pre.length : Int)) (k0 + (cnAlarms suf : Int))
  | [], pre, k0, h0, h1, h => by
    refine Ev.step (f := fun _ => some k0) (fun k => ?_) (by simpa [cnAlarms] using Ev.now k0)
    rw [show mkAlarms k0 [] = [] from rfl]
    simp only [laws_heldAlarmS.l0]
    rw [if_neg (not_lt_end pre)]
  | y :: suf, pre, k0, h0, h1, h => by
    have hp : pre.length < 4611686018427387904 := by simp at h; omega
    have hc : cnAlarms (y :: suf) = cnLabels y.f0 + 3 + cnAlarms suf := rfl
    rw [hc] at h1 ⊢
    obtain ⟨K, g⟩ := heldAlarmS_l0 suf (pre ++ [(⟨mkLabels k0 y.f0, (k0 + (cnLabels y.f0 : Int)), (k0 + (cnLabels y.f0 : Int) + 1), mkText (k0 + (cnLabels y.f0 : Int) + 2)⟩ : S43)]) (k0 + (cnLabels y.f0 : Int) + 3) (by omega) (by omega) (by simpa using h)
    obtain ⟨K0, g0⟩ := heldLabelS_ev y.f0 k0 (by omega) (by omega)
    obtain ⟨K1, g1⟩ := markText_ev (k0 + (cnLabels y.f0 : Int) + 2) (by omega) (by omega)
    refine ⟨K + K0 + K1 + 1, fun k hk => ?_⟩
    obtain ⟨k, rfl⟩ : ∃ m, k = m + 1 := ⟨k - 1, by omega⟩
    have G := g k (by omega)
    have G0 := g0 k (by omega)
    have G1 := g1 k (by omega)
    dsimp only at G G0 G1
    have w1 : wrap64 ((k0 + (cnLabels y.f0 : Int)) + 1) = (k0 + (cnLabels y.f0 : Int) + 1) := (wrap_id (by omega) (by omega)).trans (by omega)
    have w2 : wrap64 ((k0 + (cnLabels y.f0 : Int) + 1) + 1) = (k0 + (cnLabels y.f0 : Int) + 2) := (wrap_id (by omega) (by omega)).trans (by omega)
    have w3 : wrap64 ((k0 + (cnLabels y.f0 : Int) + 2) + 1) = (k0 + (cnLabels y.f0 : Int) + 3) := (wrap_id (by omega) (by omega)).trans (by omega)
    have n0 : ¬ (k0 + (cnLabels y.f0 : Int) < 0) := by omega
    rw [show mkAlarms k0 (y :: suf) = ⟨mkLabels k0 y.f0, (k0 + (cnLabels y.f0 : Int)), (k0 + (cnLabels y.f0 : Int) + 1), mkText (k0 + (cnLabels y.f0 : Int) + 2)⟩ :: mkAlarms (k0 + (cnLabels y.f0 : Int) + 3) suf from rfl]
    simp only [laws_heldAlarmS.l0]
    rw [if_pos (lt_mid pre _ _)]
    simp only [nn, if_true, if_false, rdmmAlarm, Option.bind_some, wrap_up pre.length (by omega), G0, G1, w1, w2, w3, n0, bne_self_eq_false, Bool.false_eq_true]
    have eL : pre ++ (⟨mkLabels k0 y.f0, (k0 + (cnLabels y.f0 : Int)), (k0 + (cnLabels y.f0 : Int) + 1), mkText (k0 + (cnLabels y.f0 : Int) + 2)⟩ : S43) :: mkAlarms (k0 + (cnLabels y.f0 : Int) + 3) suf = (pre ++ [(⟨mkLabels k0 y.f0, (k0 + (cnLabels y.f0 : Int)), (k0 + (cnLabels y.f0 : Int) + 1), mkText (k0 + (cnLabels y.f0 : Int) + 2)⟩ : S43)]) ++ mkAlarms (k0 + (cnLabels y.f0 : Int) + 3) suf := by simp
    have eN : ((pre.length + 1 : Nat) : Int) = ((pre ++ [(⟨mkLabels k0 y.f0, (k0 + (cnLabels y.f0 : Int)), (k0 + (cnLabels y.f0 : Int) + 1), mkText (k0 + (cnLabels y.f0 : Int) + 2)⟩ : S43)]).length : Int) := by simp
    rw [eL, eN, G]
    refine congrArg some ?_
    push_cast; omega
theorem heldAlarmS_ev (l : List S43) (k0 : Int) (h0 : 0 ≤ k0) (h1 : k0 + (cnAlarms l : Int) < 4611686018427387904) : Ev (fun k => laws_heldAlarmS.f k (mkAlarms k0 l) k0) (k0 + (cnAlarms l : Int)) := by
  have := cnAlarms_le l
  exact Ev.congr (fun k => by unfold laws_heldAlarmS.f; rfl) (heldAlarmS_l0 l [] k0 h0 h1 (by simp; omega))

end Go.Proofs.Yticgekgojgkbgaa.Print
end
section
namespace Go.Proofs.Yticgekgojgkbgaa.Print
open Go.RowKit Go.Proofs.YticgekgojgkbgaaV.PrintWords Go.Proofs.YticgekgojgkbgaaV.PrintLast Go.Proofs.YticgekgojgkbgaaV.PrintMore
set_option linter.unusedVariables false
set_option linter.unusedSimpArgs false
def cvChain (x : S119) : S100 := ⟨x.f0, (x.f1.map cvAlarm)⟩
def WChain (x : S119) : Prop := True ∧ (x.f1.length ≤ 1048576 ∧ ∀ y ∈ x.f1, WAlarm y)
def WiChain (x : S100) : Prop := True ∧ (x.f1.length ≤ 4000000 ∧ ∀ y ∈ x.f1, WiAlarm y)
theorem Wi_cvChain {x : S119} (h : WChain x) : WiChain (cvChain x) := ⟨trivial, ⟨by show (List.map cvAlarm x.f1).length ≤ 4000000; rw [List.length_map]; exact Nat.le_trans h.2.1 (by decide), fun y hy => by obtain ⟨z, hz, rfl⟩ := List.mem_map.1 hy; exact Wi_cvAlarm (h.2.2 z hz)⟩⟩
theorem szChain_ev (x : S119) (hB : B119 x) (n : Int) (h0 : 0 ≤ n) (h1 : n ≤ 1048576) : ∃ r, Ev (fun k => laws_szChain.f k x.f0 x.f1 n) r ∧ r ≤ n ∧ (0 ≤ r → WChain x) := by
  obtain ⟨r1, ⟨K1, g1⟩, l1, w1⟩ := szAlarmS_ev x.f1 hB.2 n (by omega) (by omega)
  by_cases c1 : r1 < 0
  · exact ⟨-1, ⟨K1, fun k hk => by simp [laws_szChain.f, g1 k (by omega), c1]⟩, by omega, by omega⟩
  exact ⟨r1, ⟨K1, fun k hk => by simp [laws_szChain.f, g1 k (by omega), c1]⟩, by omega, fun _ => ⟨trivial, (w1 (by omega))⟩⟩
theorem toChain_ev (x : S119) (h : WChain x) : Ev (fun k => laws_toChain.f k x.f0 x.f1) ((cvChain x).f0, (cvChain x).f1) := by
  obtain ⟨K1, g1⟩ := toAlarmS_ev x.f1 h.2
  exact ⟨K1, fun k hk => by simp [laws_toChain.f, cvChain, g1 k (by omega)]⟩
theorem eqChain_ev (x : S100) (h : WiChain x) : Ev (fun k => laws_eqChain.f k x.f0 x.f1 x.f0 x.f1) true := by
  obtain ⟨K1, g1⟩ := eqAlarmS_ev x.f1 h.2
  exact ⟨K1, fun k hk => by simp [laws_eqChain.f, g1 k (by omega)]⟩

end Go.Proofs.Yticgekgojgkbgaa.Print
end
section
namespace Go.Proofs.Yticgekgojgkbgaa.Print
open Go.RowKit Go.Proofs.YticgekgojgkbgaaV.PrintWords Go.Proofs.YticgekgojgkbgaaV.PrintLast Go.Proofs.YticgekgojgkbgaaV.PrintMore
set_option linter.unusedVariables false
set_option linter.unusedSimpArgs false
theorem rdmidChainl (pre suf : List S119) (y : S119) : rd_T119 (pre ++ y :: suf) (pre.length : Int) = y := by unfold rd_T119; simp
theorem rdmidChaini (pre suf : List S100) (y : S100) : rd_T100 (pre ++ y :: suf) (pre.length : Int) = y := by unfold rd_T100; simp
theorem szChainS_l0 : ∀ (suf pre : List S119) (n : Int), 0 ≤ n → n ≤ 1048576 → (∀ y ∈ suf, B119 y) → (pre ++ suf).length < 4611686018427387904 → ∃ r, Ev (fun k => laws_szChainS.l0 k (pre ++ suf) n (pre.length : Int)) r ∧ r ≤ n ∧ (0 ≤ r → ∀ y ∈ suf, WChain y)
  | [], pre, n, h0, h1, hB, h => by
    refine ⟨n, Ev.step (f := fun _ => some n) (fun k => ?_) (Ev.now _), Int.le_refl _, fun _ y hy => by cases hy⟩
    simp only [laws_szChainS.l0]
    rw [if_neg (not_lt_end pre)]
  | y :: suf, pre, n, h0, h1, hB, h => by
    have hp : pre.length < 4611686018427387904 := by simp at h; omega
    have hy := hB y List.mem_cons_self
    obtain ⟨r1, g1, l1, w1⟩ := szChain_ev y hy n h0 h1
    by_cases c : r1 < 0
    · refine ⟨-1, Ev.step (f := fun k => (laws_szChain.f k y.f0 y.f1 n).bind fun t => if t < 0 then some (-1) else laws_szChainS.l0 k (pre ++ y :: suf) t (wrap64 ((pre.length : Int) + 1))) (fun k => ?_) (Ev.bind g1 ?_), by omega, by omega⟩
      · simp only [laws_szChainS.l0]
        rw [if_pos (lt_mid pre suf y), if_pos (nn _), rdmidChainl]
      · simp only [if_pos c]
        exact Ev.now _
    · obtain ⟨r, g, hl, hw⟩ := szChainS_l0 suf (pre ++ [y]) r1 (by omega) (by omega) (fun z hz => hB z (List.mem_cons_of_mem _ hz)) (by simpa using h)
      refine ⟨r, Ev.step (f := fun k => (laws_szChain.f k y.f0 y.f1 n).bind fun t => if t < 0 then some (-1) else laws_szChainS.l0 k ((pre ++ [y]) ++ suf) t ((pre ++ [y]).length : Int)) (fun k => ?_) (Ev.bind g1 ?_), by omega, fun hr z hz => ?_⟩
      · simp only [laws_szChainS.l0]
        rw [if_pos (lt_mid pre suf y), if_pos (nn _), rdmidChainl, wrap_up _ (by omega)]
        simp
      · simp only [if_neg c]
        exact g
      · rcases List.mem_cons.1 hz with rfl | hz
        · exact w1 (by omega)
        · exact hw hr z hz
theorem szChainS_ev (l : List S119) (hB : l.length ≤ maxLen ∧ ∀ y ∈ l, B119 y) (n : Int) (h0 : 0 ≤ n) (h1 : n ≤ 1048576) : ∃ r, Ev (fun k => laws_szChainS.f k l n) r ∧ r ≤ n ∧ (0 ≤ r → l.length ≤ 1048576 ∧ ∀ y ∈ l, WChain y) := by
  have q : l.length ≤ 9223372036854775807 := hB.1
  have e : wrap64 (n - (l.length : Int)) = n - (l.length : Int) := wrap_id (by omega) (by omega)
  by_cases c : n - (l.length : Int) < 0
  · exact ⟨-1, ⟨0, fun k _ => by simp [laws_szChainS.f, e, c]⟩, by omega, by omega⟩
  · obtain ⟨r, g, hl, hw⟩ := szChainS_l0 l [] (n - (l.length : Int)) (by omega) (by omega) hB.2 (by simp; omega)
    refine ⟨r, Ev.congr (fun k => ?_) g, by omega, fun hr => ⟨by omega, hw hr⟩⟩
    unfold laws_szChainS.f
    rw [e, if_neg c]
    rfl
theorem toChainS_l0 : ∀ (suf pre : List S119), (pre ++ suf).length < 4611686018427387904 → (∀ y ∈ suf, WChain y) → Ev (fun k => laws_toChainS.l0 k (pre ++ suf) ((pre.map cvChain) ++ List.replicate suf.length z100) (pre.length : Int)) ((pre ++ suf).map cvChain)
  | [], pre, h, hW => by
    refine Ev.step (f := fun _ => some ((pre ++ []).map cvChain)) (fun k => ?_) (Ev.now _)
    simp only [laws_toChainS.l0]
    rw [if_neg (not_lt_end pre)]
    simp
  | y :: suf, pre, h, hW => by
    have hp : pre.length < 4611686018427387904 := by simp at h; omega
    have ih := toChainS_l0 suf (pre ++ [y]) (by simpa using h) (fun z hz => hW z (List.mem_cons_of_mem _ hz))
    have g := toChain_ev y (hW y List.mem_cons_self)
    refine Ev.step (f := fun k => (laws_toChain.f k y.f0 y.f1).bind fun t => laws_toChainS.l0 k ((pre ++ [y]) ++ suf) ((pre.map cvChain) ++ (⟨t.1, t.2⟩ : S100) :: List.replicate suf.length z100) ((pre ++ [y]).length : Int)) (fun k => ?_) (Ev.bind g ?_)
    · simp only [laws_toChainS.l0]
      rw [if_pos (lt_mid pre suf y), if_pos (nn _), rdmidChainl, wrap_up _ (by omega)]
      congr 1
      funext t
      rw [if_pos (by simp; omega)]
      congr 1
      · simp
      · simp [List.replicate_succ]
      · simp
    · rw [mid_assoc pre suf y]
      have e : (pre.map cvChain) ++ (cvChain y) :: List.replicate suf.length z100 = ((pre ++ [y]).map cvChain) ++ List.replicate suf.length z100 := by simp
      rw [← e] at ih
      exact ih
theorem toChainS_ev (l : List S119) (h : l.length ≤ 1048576 ∧ ∀ y ∈ l, WChain y) : Ev (fun k => laws_toChainS.f k l) (l.map cvChain) := by
  have h1 := h.1
  refine Ev.congr (fun k => ?_) (toChainS_l0 l [] (by simp; omega) h.2)
  unfold laws_toChainS.f
  rw [if_pos (nn l.length), Int.toNat_natCast, if_pos (by omega)]
  rfl
theorem eqChainS_l0 : ∀ (suf pre : List S100), (pre ++ suf).length < 4611686018427387904 → (∀ y ∈ suf, WiChain y) → Ev (fun k => laws_eqChainS.l0 k (pre ++ suf) (pre ++ suf) (pre.length : Int)) true
  | [], pre, h, hW => by
    refine Ev.step (f := fun _ => some true) (fun k => ?_) (Ev.now _)
    simp only [laws_eqChainS.l0]
    rw [if_neg (not_lt_end pre)]
  | y :: suf, pre, h, hW => by
    have hp : pre.length < 4611686018427387904 := by simp at h; omega
    have ih := eqChainS_l0 suf (pre ++ [y]) (by simpa using h) (fun z hz => hW z (List.mem_cons_of_mem _ hz))
    have g := eqChain_ev y (hW y List.mem_cons_self)
    refine Ev.step (f := fun k => (laws_eqChain.f k y.f0 y.f1 y.f0 y.f1).bind fun t => if t = true then laws_eqChainS.l0 k ((pre ++ [y]) ++ suf) ((pre ++ [y]) ++ suf) ((pre ++ [y]).length : Int) else none) (fun k => ?_) (Ev.bind g ?_)
    · simp only [laws_eqChainS.l0]
      rw [if_pos (lt_mid pre suf y), if_pos (nn _), if_pos (lt_mid pre suf y), rdmidChaini, wrap_up _ (by omega)]
      simp
    · simp only [if_true]
      exact ih
theorem eqChainS_ev (l : List S100) (h : l.length ≤ 4000000 ∧ ∀ y ∈ l, WiChain y) : Ev (fun k => laws_eqChainS.f k l l) true := by
  have h1 := h.1
  refine Ev.congr (fun k => ?_) (eqChainS_l0 l [] (by simp; omega) h.2)
  unfold laws_eqChainS.f
  rw [if_pos rfl]
  rfl

end Go.Proofs.Yticgekgojgkbgaa.Print
end
section
namespace Go.Proofs.Yticgekgojgkbgaa.Print
open Go.RowKit Go.Proofs.YticgekgojgkbgaaV.PrintWords Go.Proofs.YticgekgojgkbgaaV.PrintLast Go.Proofs.YticgekgojgkbgaaV.PrintMore
set_option linter.unusedVariables false
set_option linter.unusedSimpArgs false
def cvPart (x : S52) : S57 := ⟨x.f0, x.f1, (x.f2.map cvChain)⟩
def WPart (x : S52) : Prop := True ∧ True ∧ (x.f2.length ≤ 1048576 ∧ ∀ y ∈ x.f2, WChain y)
def WiPart (x : S57) : Prop := True ∧ True ∧ (x.f2.length ≤ 4000000 ∧ ∀ y ∈ x.f2, WiChain y)
theorem Wi_cvPart {x : S52} (h : WPart x) : WiPart (cvPart x) := ⟨trivial, trivial, ⟨by show (List.map cvChain x.f2).length ≤ 4000000; rw [List.length_map]; exact Nat.le_trans h.2.2.1 (by decide), fun y hy => by obtain ⟨z, hz, rfl⟩ := List.mem_map.1 hy; exact Wi_cvChain (h.2.2.2 z hz)⟩⟩
theorem szPart_ev (x : S52) (hB : B52 x) (n : Int) (h0 : 0 ≤ n) (h1 : n ≤ 1048576) : ∃ r, Ev (fun k => laws_szPart.f k x.f0 x.f1 x.f2 n) r ∧ r ≤ n ∧ (0 ≤ r → WPart x) := by
  obtain ⟨r1, ⟨K1, g1⟩, l1, w1⟩ := szChainS_ev x.f2 hB.2.2 n (by omega) (by omega)
  by_cases c1 : r1 < 0
  · exact ⟨-1, ⟨K1, fun k hk => by simp [laws_szPart.f, g1 k (by omega), c1]⟩, by omega, by omega⟩
  exact ⟨r1, ⟨K1, fun k hk => by simp [laws_szPart.f, g1 k (by omega), c1]⟩, by omega, fun _ => ⟨trivial, trivial, (w1 (by omega))⟩⟩
theorem toPart_ev (x : S52) (h : WPart x) : Ev (fun k => laws_toPart.f k x.f0 x.f1 x.f2) ((cvPart x).f0, (cvPart x).f1, (cvPart x).f2) := by
  obtain ⟨K2, g2⟩ := toChainS_ev x.f2 h.2.2
  exact ⟨K2, fun k hk => by simp [laws_toPart.f, cvPart, g2 k (by omega)]⟩
theorem eqPart_ev (x : S57) (h : WiPart x) : Ev (fun k => laws_eqPart.f k x.f0 x.f1 x.f2 x.f0 x.f1 x.f2) true := by
  obtain ⟨K2, g2⟩ := eqChainS_ev x.f2 h.2.2
  exact ⟨K2, fun k hk => by simp [laws_eqPart.f, g2 k (by omega)]⟩

end Go.Proofs.Yticgekgojgkbgaa.Print
end
