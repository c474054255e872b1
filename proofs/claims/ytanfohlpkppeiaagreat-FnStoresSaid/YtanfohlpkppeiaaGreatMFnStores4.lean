import Derived.Shelf.GgSortMore.Stable
import Derived.Shelf.GgSortFunc.SmallK
import Derived.Shelf.GgSortFunc.SW
import Derived.Test.YtanfohlpkppeiaaGreatMFnStores3
import Derived.Test.YtanfohlpkppeiaaGreatMFnStores1
import Derived.Test.YtanfohlpkppeiaaGreatMFnStores2
section
namespace Go.Proofs.YtanfohlpkppeiaaGreat.Stable
open Go.Shelf Go.RowKit Go.Lib Go.Sort
set_option linter.unusedVariables false
variable {P : Program} {ρ : Ren} {α : Type} [Inhabited α]

def SWK (enc : α → List Value) (k : Nat) (w0 : World) (blk off : Nat) (dk : Array α) (W : World) : Prop := SW id w0 blk off (flatK enc k dk) W
section
variable {enc : α → List Value} {k : Nat} {w0 W : World} {blk off : Nat} {dk : Array α}
theorem SWK.start (h : HoldsK enc k w0 blk off dk) : SWK enc k w0 blk off dk w0 := SW.start h
theorem SWK.drewN (h : SWK enc k w0 blk off dk W) (q : Nat) : SWK enc k w0 blk off dk (W.drewN q) := SW.drewN h q
theorem SWK.alloc (h : SWK enc k w0 blk off dk W) (o : Obj) : SWK enc k w0 blk off dk (W.alloc o) := SW.alloc h o
theorem SWK.le (h : SWK enc k w0 blk off dk W) : w0.heap.size ≤ W.heap.size := SW.le h
theorem SWK.holds (h : SWK enc k w0 blk off dk W) (hblk : blk < w0.heap.size) {d0 : Array α} (h0 : HoldsK enc k w0 blk off d0) (hs : dk.size = d0.size) : HoldsK enc k W blk off dk :=
  SW.holds h hblk h0 (by simp [hs])
theorem SWK.on (h : SWK enc k w0 blk off dk W) (hblk : blk < w0.heap.size) (m : Nat) (dk' : Array α) (os' : Array Obj) (hs : dk'.size = dk.size) : SWK enc k w0 blk off dk' (sortWorldK enc k W blk off m dk' os') :=
  SW.on h hblk m (flatK enc k dk') os' (by simp [hs])
theorem SWK.eq (h : SWK enc k w0 blk off dk W) : ∃ n os, W = sortWorldK enc k w0 blk off n dk os := h
theorem SWK.swap (hk : ∀ x, (enc x).length = k) (h : SWK enc k w0 blk off dk W) (hblk : blk < w0.heap.size) (i j : Nat) (hi : i < dk.size) (hj : j < dk.size) :
    SWK enc k w0 blk off (swp dk i j) ((W.setCells blk (off + i * k) (enc dk[j]!)).setCells blk (off + j * k) (enc dk[i]!)) := by
  obtain ⟨n, os, rfl⟩ := h
  refine ⟨n, os, ?_⟩
  have b : ∀ x, x < dk.size → x * k + k ≤ dk.size * k := fun x hx => by
    have := Nat.mul_le_mul_right k (show x + 1 ≤ dk.size from hx); rwa [Nat.add_mul, Nat.one_mul] at this
  unfold sortWorld
  rw [← putRow_grow id (Sort.ahead w0 n) os blk off _ hblk, setCells_putRow _ _ _ _ _ _ (by rw [hk, size_flatK]; exact b i hi), setCells_putRow _ _ _ _ _ _ (by rw [hk, size_setMany, size_flatK]; exact b j hj),
    setMany_swp enc k hk dk i j hi hj, putRow_grow id (Sort.ahead w0 n) os blk off _ hblk]
theorem SWK.less {g : Nat} {lb : Array Value} {lt : α → α → Bool} {size : Nat} (h : SWK enc k w0 blk off dk W) (hL : LessReadsK P g lb enc k lt blk off size w0) (hs : dk.size = size) (i j : Nat) (hi : i < size) (hj : j < size) :
    Calls P g (#[.int .i64 i, .int .i64 j] ++ lb) W fun e w' => e = .returned (.bool (lt dk[i]! dk[j]!)) ∧ ∃ q, w' = W.drewN q := by
  obtain ⟨n, os, rfl⟩ := h
  exact hL n os dk hs i j hi hj
theorem SWK.cell_swap (W : World) (blk o1 o2 : Nat) (v1 v2 : List Value) (b o : Nat) (h : b ≠ blk) : ((W.setCells blk o1 v1).setCells blk o2 v2).cell? ⟨b, o, none⟩ = W.cell? ⟨b, o, none⟩ := by
  rw [World.cell?_setCells_out blk _ _ _ _ (fun e => absurd e h), World.cell?_setCells_out blk _ _ _ _ (fun e => absurd e h)]
end

def Keep (blk : Nat) (W W' : World) : Prop := ∀ b o v, b ≠ blk → W.cell? ⟨b, o, none⟩ = some v → W'.cell? ⟨b, o, none⟩ = some v
theorem lt_of_cell {W : World} {b o : Nat} {v : Value} (h : W.cell? ⟨b, o, none⟩ = some v) : b < W.heap.size := by
  by_cases hlt : b < W.heap.size
  · exact hlt
  · unfold World.cell? at h
    rw [Array.getElem?_eq_none (by simpa using hlt)] at h; simp at h
theorem Keep.refl (blk : Nat) (W : World) : Keep blk W W := fun _ _ _ _ h => h
theorem Keep.trans {blk : Nat} {W W' W'' : World} (h : Keep blk W W') (g : Keep blk W' W'') : Keep blk W W'' := fun b o v hb hc => g b o v hb (h b o v hb hc)
theorem Keep.alloc (blk : Nat) (W : World) (o : Obj) : Keep blk W (W.alloc o) := fun b o' v _ hc => by
  rw [alloc_eq_grow, cell?_grow _ _ _ (lt_of_cell hc)]; exact hc
theorem Keep.drewN {blk : Nat} {W W' : World} (h : Keep blk W W') (q : Nat) : Keep blk W (W'.drewN q) := fun b o v hb hc => h b o v hb hc

structure Data (P : Program) (enc : α → List Value) (k : Nat) (lt : α → α → Bool) (g : Nat) (lb : Array Value) (sf : Nat) (sb : Array Value) (blk off size : Nat) (w0 : World) : Prop where
  hk : ∀ x, (enc x).length = k
  eg : ∀ args w, (callFunc g args).run P w = .ok (.enter g args) w
  less : LessReadsK P g lb enc k lt blk off size w0
  swap : SwapSwapsK P sf sb enc k blk off size
  holds : ∃ d0 : Array α, HoldsK enc k w0 blk off d0 ∧ d0.size = size
  hblk : blk < w0.heap.size
  hsz : size < 1152921504606846976

theorem Data.swaps {enc : α → List Value} {k : Nat} {lt : α → α → Bool} {g : Nat} {lb : Array Value} {sf : Nat} {sb : Array Value} {blk off size : Nat} {w0 : World} (D : Data P enc k lt g lb sf sb blk off size w0)
    {dk : Array α} (hs : dk.size = size) {W : World} (h : SWK enc k w0 blk off dk W) (i j : Nat) (hi : i < size) (hj : j < size) :
    ∃ F : Nat → World, (∀ q, (callFunc sf (#[.int .i64 i, .int .i64 j] ++ sb)).run P (W.drewN q) = .ok (.value (.tuple #[])) (F q)) ∧ (∀ q, SWK enc k w0 blk off (swp dk i j) (F q)) ∧ ∀ q, Keep blk W (F q) := by
  obtain ⟨d0, h0, h1⟩ := D.holds
  refine ⟨fun q => ((W.drewN q).setCells blk (off + i * k) (enc dk[j]!)).setCells blk (off + j * k) (enc dk[i]!), fun q => D.swap (W.drewN q) dk ((h.drewN q).holds D.hblk h0 (hs.trans h1.symm)) hs i j hi hj,
    fun q => (h.drewN q).swap D.hk D.hblk i j (hs ▸ hi) (hs ▸ hj), fun q b o v hb hc => ?_⟩
  rw [SWK.cell_swap _ _ _ _ _ _ _ _ hb]; exact hc

set_option maxHeartbeats 2000000 in
set_option maxRecDepth 100000 in
theorem swapRange_cells (L : LaysGt.n49 P ρ) {enc : α → List Value} {k : Nat} {lt : α → α → Bool} {g : Nat} {lb : Array Value} {sf : Nat} {sb : Array Value} {blk off size : Nat} {w0 : World} (D : Data P enc k lt g lb sf sb blk off size w0)
    (d : Array α) (hs : d.size = size) (W : World) (hW : SWK enc k w0 blk off d W) (a b n : Nat) (h1 : a + n ≤ b) (h2 : b + n ≤ size) :
    Calls P (ρ.f 49) #[.agg #[.func (.func g) #[] lb, .func (.func sf) #[] sb], .int .i64 a, .int .i64 b, .int .i64 n] W fun e w' => e = .returned (.tuple #[]) ∧ SWK enc k w0 blk off (swr d a b n) w' ∧ Keep blk W w' := by
  have mixed := L.mixed; have t0 := L.t0; have a0 := L.a0; have z0 := L.z0; have v0 := L.v0; have t3 := L.t3; have a3 := L.a3; have z3 := L.z3; have v3 := L.v3; have t4 := L.t4; have a4 := L.a4; have z4 := L.z4; have v4 := L.v4; have t26 := L.t26; have a26 := L.a26; have z26 := L.z26; have v26 := L.v26; have t38 := L.t38; have a38 := L.a38; have z38 := L.z38; have v38 := L.v38; have t42 := L.t42; have a42 := L.a42; have z42 := L.z42; have v42 := L.v42
  have u42 := run_underlying L.t42
  have hbs : blk ≠ W.heap.size := by have := hW.le; have := D.hblk; omega
  have hsz := D.hsz
  go_enter L.f49, BodyGt.n49_ntmps ρ
  go_wp2
  go_loopw [8] (fun vi wr => ∃ i : Nat, vi = .int .i64 i ∧ i ≤ n ∧ SWK enc k w0 blk off (swr d a b i) wr ∧ wr.cell? ⟨W.heap.size, 1, none⟩ = some (.func (.func sf) #[] sb) ∧ Keep blk W wr) (fun vi _ => n - (intOf vi).toNat)
  case atStart => exact ⟨0, by go_num, by omega, hW.alloc _, by simp, Keep.alloc _ _ _⟩
  case round =>
    obtain ⟨i, rfl, hi, hS, hc, hK⟩ := hrel
    have AK : Hid (Keep blk W wr) := hK
    clear hK
    by_cases hlt : i < n
    · obtain ⟨F, hF, hF1, hF2⟩ := D.swaps (dk := swr d a b i) (by simp [hs]) hS (a + i) (b + i) (by omega) (by omega)
      have hc' : ∀ q, (F q).cell? ⟨W.heap.size, 1, none⟩ = some (.func (.func sf) #[] sb) := fun q => hF2 q _ _ _ (Ne.symm hbs) hc
      have AK2 : Hid (∀ q, Keep blk W (F q)) := fun q => AK.out.trans (hF2 q)
      have AF : Hid (∀ q, SWK enc k w0 blk off (swp (swr d a b i) (a + i) (b + i)) (F q)) := hF1
      have hF0 : (callFunc sf (#[.int .i64 ((a : Int) + i), .int .i64 ((b : Int) + i)] ++ sb)).run P wr = .ok (.value (.tuple #[])) (F 0) := by
        rw [show (a : Int) + i = ((a + i : Nat) : Int) by omega, show (b : Int) + i = ((b + i : Nat) : Int) by omega]; exact hF 0
      clear hF1 hF2 hS hF
      go_wp2
      go_roundw
      case rel => exact ⟨i + 1, by go_num, by omega, AF.out _, hc' _, AK2.out _⟩
      case measure => simp [intOf]; omega
    · have AS : Hid (SWK enc k w0 blk off (swr d a b i) wr) := hS
      clear hS
      go_wp2
      go_end0
      obtain rfl : i = n := by omega
      exact ⟨rfl, AS.out, AK.out⟩

set_option maxHeartbeats 2000000 in
set_option maxRecDepth 100000 in
theorem rotate_cells (L : LaysGt.n42 P ρ) {enc : α → List Value} {k : Nat} {lt : α → α → Bool} {g : Nat} {lb : Array Value} {sf : Nat} {sb : Array Value} {blk off size : Nat} {w0 : World} (D : Data P enc k lt g lb sf sb blk off size w0)
    (d : Array α) (hs : d.size = size) (W : World) (hW : SWK enc k w0 blk off d W) (a m b : Nat) (h1 : a < m) (h2 : m < b) (h3 : b ≤ size) :
    Calls P (ρ.f 42) #[.agg #[.func (.func g) #[] lb, .func (.func sf) #[] sb], .int .i64 a, .int .i64 m, .int .i64 b] W fun e w' => e = .returned (.tuple #[]) ∧ SWK enc k w0 blk off (rot d a m b) w' ∧ Keep blk W w' := by
  have mixed := L.mixed; have t0 := L.t0; have a0 := L.a0; have z0 := L.z0; have v0 := L.v0; have t3 := L.t3; have a3 := L.a3; have z3 := L.z3; have v3 := L.v3; have t4 := L.t4; have a4 := L.a4; have z4 := L.z4; have v4 := L.v4; have t26 := L.t26; have a26 := L.a26; have z26 := L.z26; have v26 := L.v26; have t38 := L.t38; have a38 := L.a38; have z38 := L.z38; have v38 := L.v38; have t42 := L.t42; have a42 := L.a42; have z42 := L.z42; have v42 := L.v42
  have u42 := run_underlying L.t42
  have hbs : blk ≠ W.heap.size := by have := hW.le; have := D.hblk; omega
  have hsz := D.hsz
  have e49 : ∀ args w, (callFunc (ρ.f 49) args).run P w = .ok (.enter (ρ.f 49) args) w := enters_of L.f49 (by kernel_rfl) rfl
  have LI : LaysGt.n49 P ρ := { L with }
  go_enter L.f42, BodyGt.n42_ntmps ρ
  go_wp2
  go_loopw [8, 9] (fun vi vj wr => ∃ (i j : Nat) (dk : Array α), vi = .int .i64 i ∧ vj = .int .i64 j ∧ 0 < i ∧ 0 < j ∧ i ≤ m ∧ m + j ≤ size ∧ dk.size = size ∧ rot dk (m - i) m (m + j) = rot d a m b ∧ SWK enc k w0 blk off dk wr ∧
      wr.cell? ⟨W.heap.size, 0, none⟩ = some (.func (.func g) #[] lb) ∧ wr.cell? ⟨W.heap.size, 1, none⟩ = some (.func (.func sf) #[] sb) ∧ Keep blk W wr) (fun vi vj _ => (intOf vi).toNat + (intOf vj).toNat)
  case atStart =>
    refine ⟨m - a, b - m, d, by go_num, by go_num, by omega, by omega, by omega, by omega, hs, ?_, hW.alloc _, by simp, by simp, Keep.alloc _ _ _⟩
    rw [show m - (m - a) = a by omega, show m + (b - m) = b by omega]
  case round =>
    obtain ⟨i, j, dk, rfl, rfl, hi, hj, him, hmj, hsk, hr, hS, c0, c1, hK⟩ := hrel
    have AR : Hid (rot dk (m - i) m (m + j) = rot d a m b) := hr
    have AK : Hid (Keep blk W wr) := hK
    clear hr hK
    by_cases hne : i = j
    · subst hne
      have hc := swapRange_cells LI D dk hsk wr hS (m - i) m i (by omega) (by omega)
      rw [show ((m - i : Nat) : Int) = (m : Int) - i by omega] at hc
      have AE : Hid (swr dk (m - i) m i = rot d a m b) := (swr_rot_eq dk m i him (by omega)).trans AR.out
      clear hS
      go_wp2_with (go_at_fn (ρ.f 49); refine hc.mono ?_; rintro e w' ⟨rfl, hS', hK'⟩)
      go_end0
      exact ⟨rfl, AE.out ▸ hS', AK.out.trans hK'⟩
    · by_cases hgt : j < i
      · have hc := swapRange_cells LI D dk hsk wr hS (m - i) m j (by omega) (by omega)
        rw [show ((m - i : Nat) : Int) = (m : Int) - i by omega] at hc
        have AE : Hid (rot (swr dk (m - i) m j) (m - (i - j)) m (m + j) = rot d a m b) := (swr_rot_gt dk m i j hj hgt him (by omega)).trans AR.out
        clear hS
        go_wp2_with (go_at_fn (ρ.f 49); refine hc.mono ?_; rintro e w' ⟨rfl, hS', hK'⟩)
        have c0' := hK' _ _ _ (Ne.symm hbs) c0
        have c1' := hK' _ _ _ (Ne.symm hbs) c1
        go_roundw
        case rel => exact ⟨i - j, j, _, by go_num, rfl, by omega, hj, by omega, hmj, by simp [hsk], AE.out, hS', c0', c1', AK.out.trans hK'⟩
        case measure => simp [intOf]; omega
      · have hc := swapRange_cells LI D dk hsk wr hS (m - i) (m + j - i) i (by omega) (by omega)
        rw [show ((m - i : Nat) : Int) = (m : Int) - i by omega, show ((m + j - i : Nat) : Int) = (m : Int) + j - i by omega] at hc
        have AE : Hid (rot (swr dk (m - i) (m + j - i) i) (m - i) m (m + (j - i)) = rot d a m b) := (swr_rot_lt dk m i j hi (by omega) him (by omega)).trans AR.out
        clear hS
        go_wp2_with (go_at_fn (ρ.f 49); refine hc.mono ?_; rintro e w' ⟨rfl, hS', hK'⟩)
        have c0' := hK' _ _ _ (Ne.symm hbs) c0
        have c1' := hK' _ _ _ (Ne.symm hbs) c1
        go_roundw
        case rel => exact ⟨i, j - i, _, rfl, by go_num, hi, by omega, him, by omega, by simp [hsk], AE.out, hS', c0', c1', AK.out.trans hK'⟩
        case measure => simp [intOf]; omega

theorem Data.lessCall {enc : α → List Value} {k : Nat} {lt : α → α → Bool} {g : Nat} {lb : Array Value} {sf : Nat} {sb : Array Value} {blk off size : Nat} {w0 : World} (D : Data P enc k lt g lb sf sb blk off size w0)
    {dk : Array α} (hs : dk.size = size) {W : World} (h : SWK enc k w0 blk off dk W) (i j : Nat) (hi : i < size) (hj : j < size) :
    Calls P g (#[.int .i64 i, .int .i64 j] ++ lb) W fun e w' => e = .returned (.bool (lt dk[i]! dk[j]!)) ∧ ∃ q, w' = W.drewN q := h.less D.less hs i j hi hj
theorem bs_go1 {q : Nat → Bool} {i j : Nat} (h : i < j) (hq : q ((i + j) / 2) = true) : bs q ((i + j) / 2 + 1) j = bs q i j := by
  conv => rhs; rw [bs]
  rw [if_pos h, if_pos hq]
theorem bs_go0 {q : Nat → Bool} {i j : Nat} (h : i < j) (hq : q ((i + j) / 2) = false) : bs q i ((i + j) / 2) = bs q i j := by
  conv => rhs; rw [bs]
  rw [if_pos h, if_neg (by simp [hq])]
theorem bs_stop (q : Nat → Bool) (i : Nat) : bs q i i = i := by rw [bs, if_neg (Nat.lt_irrefl _)]
@[simp] theorem size_sm (lt : α → α → Bool) : ∀ (f : Nat) (d : Array α) (a m b : Nat), (sm lt f d a m b).size = d.size
  | 0, _, _, _, _ => rfl
  | f + 1, d, a, m, b => by
    rw [sm]
    split
    · simp
    · split
      · simp
      · simp only
        repeat' split
        all_goals simp [size_sm lt f]

set_option maxHeartbeats 4000000 in
set_option maxRecDepth 100000 in
theorem symMerge_1 (L : LaysGt.n30 P ρ) {enc : α → List Value} {k : Nat} {lt : α → α → Bool} {g : Nat} {lb : Array Value} {sf : Nat} {sb : Array Value} {blk off size : Nat} {w0 : World} (D : Data P enc k lt g lb sf sb blk off size w0) (f : Nat)
    (d : Array α) (hs : d.size = size) (W : World) (hW : SWK enc k w0 blk off d W) (a m b : Nat) (hf : b - a ≤ f + 1) (h1 : a < m) (h2 : m < b) (h3 : b ≤ size) (c1 : m - a = 1) :
    Calls P (ρ.f 30) #[.agg #[.func (.func g) #[] lb, .func (.func sf) #[] sb], .int .i64 a, .int .i64 m, .int .i64 b] W fun e w' => e = .returned (.tuple #[]) ∧ SWK enc k w0 blk off (sm lt (f + 1) d a m b) w' ∧ Keep blk W w' := by
  have mixed := L.mixed; have t0 := L.t0; have a0 := L.a0; have z0 := L.z0; have v0 := L.v0; have t3 := L.t3; have a3 := L.a3; have z3 := L.z3; have v3 := L.v3; have t4 := L.t4; have a4 := L.a4; have z4 := L.z4; have v4 := L.v4; have t26 := L.t26; have a26 := L.a26; have z26 := L.z26; have v26 := L.v26; have t38 := L.t38; have a38 := L.a38; have z38 := L.z38; have v38 := L.v38; have t42 := L.t42; have a42 := L.a42; have z42 := L.z42; have v42 := L.v42; have t47 := L.t47; have a47 := L.a47; have z47 := L.z47; have v47 := L.v47
  have u42 := run_underlying L.t42
  have hbs : blk ≠ W.heap.size := by have := hW.le; have := D.hblk; omega
  have hsz := D.hsz
  have eg := D.eg
  have AS : Hid (sm lt (f + 1) d a m b = rot d a (a + 1) (bs (fun h => lt d[h]! d[a]!) m b)) := by unfold Hid; rw [sm, if_pos c1, show a + 1 = m by omega]
  have hma : (m : Int) - a = 1 := by omega
  go_enter L.f30, BodyGt.n30_ntmps ρ
  go_wp2
  go_loopw [8, 9] (fun vi vj wr => ∃ (i j : Nat), vi = .int .i64 i ∧ vj = .int .i64 j ∧ m ≤ i ∧ i ≤ j ∧ j ≤ b ∧ bs (fun h => lt d[h]! d[a]!) i j = bs (fun h => lt d[h]! d[a]!) m b ∧ SWK enc k w0 blk off d wr ∧
    wr.cell? ⟨W.heap.size, 0, none⟩ = some (.func (.func g) #[] lb) ∧ wr.cell? ⟨W.heap.size, 1, none⟩ = some (.func (.func sf) #[] sb) ∧ Keep blk W wr) (fun vi vj _ => (intOf vj).toNat - (intOf vi).toNat)
  case atStart => exact ⟨m, b, rfl, rfl, Nat.le_refl _, by omega, Nat.le_refl _, rfl, hW.alloc _, by simp, by simp, Keep.alloc _ _ _⟩
  case round =>
    obtain ⟨i, j, rfl, rfl, hi, hij, hj, hb, hS, c0, c1', hK⟩ := hrel
    have AB : Hid (bs (fun h => lt d[h]! d[a]!) i j = bs (fun h => lt d[h]! d[a]!) m b) := hb
    have AK : Hid (Keep blk W wr) := hK
    have ASW : Hid (SWK enc k w0 blk off d wr) := hS
    clear hb hK hS
    by_cases hlt : i < j
    · have hl := D.lessCall hs ASW.out ((i + j) / 2) a (by omega) (by omega)
      rw [show (((i + j) / 2 : Nat) : Int) = ((i : Int) + j) / 2 by omega] at hl
      cases hlv : lt d[(i + j) / 2]! d[a]! with
      | true =>
        rw [hlv] at hl
        go_wp2_with (go_at_fn g; refine hl.mono ?_; rintro e w' ⟨rfl, q, rfl⟩)
        go_roundw
        case rel => exact ⟨(i + j) / 2 + 1, j, by go_num, rfl, by omega, by omega, hj, (bs_go1 (q := fun h => lt d[h]! d[a]!) hlt hlv).trans AB.out, ASW.out.drewN q, c0, c1', AK.out.drewN q⟩
        case measure => simp [intOf]; omega
      | false =>
        rw [hlv] at hl
        go_wp2_with (go_at_fn g; refine hl.mono ?_; rintro e w' ⟨rfl, q, rfl⟩)
        go_roundw
        case rel => exact ⟨i, (i + j) / 2, rfl, by go_num, hi, by omega, by omega, (bs_go0 (q := fun h => lt d[h]! d[a]!) hlt hlv).trans AB.out, ASW.out.drewN q, c0, c1', AK.out.drewN q⟩
        case measure => simp [intOf]; omega
    · obtain rfl : i = j := by omega
      have AE : Hid (sm lt (f + 1) d a m b = rot d a (a + 1) i) := by unfold Hid; rw [AS.out, ← AB.out, bs_stop]
      have hSR : Hid (SWK enc k w0 blk off (rot d a (a + 1) (a + 1)) wr) := by unfold Hid; rw [rot_self]; exact ASW.out
      clear AS AB ASW c0
      go_wp2
      go_loopw [11] (fun vk w2 => ∃ kk : Nat, vk = .int .i64 kk ∧ a ≤ kk ∧ kk + 1 ≤ i ∧ SWK enc k w0 blk off (rot d a (a + 1) (kk + 1)) w2 ∧ w2.cell? ⟨W.heap.size, 1, none⟩ = some (.func (.func sf) #[] sb) ∧ Keep blk W w2) (fun vk _ => i - (intOf vk).toNat)
      case atStart => exact ⟨a, rfl, Nat.le_refl _, by omega, hSR.out, c1', AK.out⟩
      case round =>
        clear c1'
        obtain ⟨kk, rfl, hka, hki, hS2, c2', hK2⟩ := hrel
        have AK2 : Hid (Keep blk W wr) := hK2
        clear hK2 AK hSR
        by_cases hlt2 : kk + 1 < i
        · have z0 : (kk : Int) < (i : Int) - 1 := by omega
          obtain ⟨F, hF, hF1, hF2⟩ := D.swaps (dk := rot d a (a + 1) (kk + 1)) (by simp [hs]) hS2 kk (kk + 1) (by omega) (by omega)
          have hc' : ∀ q, (F q).cell? ⟨W.heap.size, 1, none⟩ = some (.func (.func sf) #[] sb) := fun q => hF2 q _ _ _ (Ne.symm hbs) c2'
          have AK3 : Hid (∀ q, Keep blk W (F q)) := fun q => AK2.out.trans (hF2 q)
          have hF0 : (callFunc sf (#[.int .i64 kk, .int .i64 ((kk : Int) + 1)] ++ sb)).run P wr = .ok (.value (.tuple #[])) (F 0) := by
            rw [show (kk : Int) + 1 = ((kk + 1 : Nat) : Int) by omega]; exact hF 0
          have AF : Hid (∀ q, SWK enc k w0 blk off (rot d a (a + 1) (kk + 2)) (F q)) := fun q => by rw [← rot_up d a kk hka (by omega)]; exact hF1 q
          clear hF hF1 hF2 hS2
          go_wp2
          go_roundw
          case rel => exact ⟨kk + 1, by go_num, by omega, by omega, AF.out _, hc' _, AK3.out _⟩
          case measure => simp [intOf]; omega
        · have z0 : ¬ (kk : Int) < (i : Int) - 1 := by omega
          obtain rfl : i = kk + 1 := by omega
          have AF : Hid (SWK enc k w0 blk off (rot d a (a + 1) (kk + 1)) wr) := hS2
          clear hS2
          go_wp2
          (try simp only [Exit.inBlock, Exit.then])
          refine bodyPost_ret (results_none rfl _ _ _) rfl ?_
          exact ⟨rfl, AE.out ▸ AF.out, AK2.out⟩
set_option maxHeartbeats 4000000 in
set_option maxRecDepth 100000 in
theorem symMerge_2 (L : LaysGt.n30 P ρ) {enc : α → List Value} {k : Nat} {lt : α → α → Bool} {g : Nat} {lb : Array Value} {sf : Nat} {sb : Array Value} {blk off size : Nat} {w0 : World} (D : Data P enc k lt g lb sf sb blk off size w0) (f : Nat)
    (d : Array α) (hs : d.size = size) (W : World) (hW : SWK enc k w0 blk off d W) (a m b : Nat) (hf : b - a ≤ f + 1) (h1 : a < m) (h2 : m < b) (h3 : b ≤ size) (c1 : ¬ m - a = 1) (c2 : b - m = 1) :
    Calls P (ρ.f 30) #[.agg #[.func (.func g) #[] lb, .func (.func sf) #[] sb], .int .i64 a, .int .i64 m, .int .i64 b] W fun e w' => e = .returned (.tuple #[]) ∧ SWK enc k w0 blk off (sm lt (f + 1) d a m b) w' ∧ Keep blk W w' := by
  have mixed := L.mixed; have t0 := L.t0; have a0 := L.a0; have z0 := L.z0; have v0 := L.v0; have t3 := L.t3; have a3 := L.a3; have z3 := L.z3; have v3 := L.v3; have t4 := L.t4; have a4 := L.a4; have z4 := L.z4; have v4 := L.v4; have t26 := L.t26; have a26 := L.a26; have z26 := L.z26; have v26 := L.v26; have t38 := L.t38; have a38 := L.a38; have z38 := L.z38; have v38 := L.v38; have t42 := L.t42; have a42 := L.a42; have z42 := L.z42; have v42 := L.v42; have t47 := L.t47; have a47 := L.a47; have z47 := L.z47; have v47 := L.v47
  have u42 := run_underlying L.t42
  have hbs : blk ≠ W.heap.size := by have := hW.le; have := D.hblk; omega
  have hsz := D.hsz
  have eg := D.eg
  have n1 : ¬ (m : Int) - a = 1 := by omega
  have n1b : ((m : Int) - a == 1) = false := beq_eq_false_iff_ne.mpr n1
  have AS : Hid (sm lt (f + 1) d a m b = rot d (bs (fun h => !lt d[m]! d[h]!) a m) m (m + 1)) := by unfold Hid; rw [sm, if_neg c1, if_pos c2, show m + 1 = b by omega]
  have hmb : (b : Int) - m = 1 := by omega
  go_enter L.f30, BodyGt.n30_ntmps ρ
  go_wp2
  go_loopw [12, 13] (fun vi vj wr => ∃ (i j : Nat), vi = .int .i64 i ∧ vj = .int .i64 j ∧ a ≤ i ∧ i ≤ j ∧ j ≤ m ∧ bs (fun h => !lt d[m]! d[h]!) i j = bs (fun h => !lt d[m]! d[h]!) a m ∧ SWK enc k w0 blk off d wr ∧
    wr.cell? ⟨W.heap.size, 0, none⟩ = some (.func (.func g) #[] lb) ∧ wr.cell? ⟨W.heap.size, 1, none⟩ = some (.func (.func sf) #[] sb) ∧ Keep blk W wr) (fun vi vj _ => (intOf vj).toNat - (intOf vi).toNat)
  case atStart => exact ⟨a, m, rfl, rfl, Nat.le_refl _, by omega, Nat.le_refl _, rfl, hW.alloc _, by simp, by simp, Keep.alloc _ _ _⟩
  case round =>
    obtain ⟨i, j, rfl, rfl, hi, hij, hj, hb, hS, c0, c1', hK⟩ := hrel
    have AB : Hid (bs (fun h => !lt d[m]! d[h]!) i j = bs (fun h => !lt d[m]! d[h]!) a m) := hb
    have AK : Hid (Keep blk W wr) := hK
    have ASW : Hid (SWK enc k w0 blk off d wr) := hS
    clear hb hK hS
    by_cases hlt : i < j
    · have hl := D.lessCall hs ASW.out m ((i + j) / 2) (by omega) (by omega)
      rw [show (((i + j) / 2 : Nat) : Int) = ((i : Int) + j) / 2 by omega] at hl
      cases hlv : lt d[m]! d[(i + j) / 2]! with
      | false =>
        rw [hlv] at hl
        go_wp2_with (go_at_fn g; refine hl.mono ?_; rintro e w' ⟨rfl, q, rfl⟩)
        go_roundw
        case rel => exact ⟨(i + j) / 2 + 1, j, by go_num, rfl, by omega, by omega, hj, (bs_go1 (q := fun h => !lt d[m]! d[h]!) hlt (by simp [hlv])).trans AB.out, ASW.out.drewN q, c0, c1', AK.out.drewN q⟩
        case measure => simp [intOf]; omega
      | true =>
        rw [hlv] at hl
        go_wp2_with (go_at_fn g; refine hl.mono ?_; rintro e w' ⟨rfl, q, rfl⟩)
        go_roundw
        case rel => exact ⟨i, (i + j) / 2, rfl, by go_num, hi, by omega, by omega, (bs_go0 (q := fun h => !lt d[m]! d[h]!) hlt (by simp [hlv])).trans AB.out, ASW.out.drewN q, c0, c1', AK.out.drewN q⟩
        case measure => simp [intOf]; omega
    · obtain rfl : i = j := by omega
      have AE : Hid (sm lt (f + 1) d a m b = rot d i m (m + 1)) := by unfold Hid; rw [AS.out, ← AB.out, bs_stop]
      have hSR : Hid (SWK enc k w0 blk off (rot d m m (m + 1)) wr) := by unfold Hid; rw [rot_self2]; exact ASW.out
      clear AS AB ASW c0
      go_wp2
      go_loopw [15] (fun vk w2 => ∃ kk : Nat, vk = .int .i64 kk ∧ i ≤ kk ∧ kk ≤ m ∧ SWK enc k w0 blk off (rot d kk m (m + 1)) w2 ∧ w2.cell? ⟨W.heap.size, 1, none⟩ = some (.func (.func sf) #[] sb) ∧ Keep blk W w2) (fun vk _ => (intOf vk).toNat)
      case atStart => exact ⟨m, rfl, hj, Nat.le_refl _, hSR.out, c1', AK.out⟩
      case round =>
        clear c1'
        obtain ⟨kk, rfl, hka, hki, hS2, c2', hK2⟩ := hrel
        have AK2 : Hid (Keep blk W wr) := hK2
        clear hK2 AK hSR
        by_cases hlt2 : i < kk
        · obtain ⟨F, hF, hF1, hF2⟩ := D.swaps (dk := rot d kk m (m + 1)) (by simp [hs]) hS2 kk (kk - 1) (by omega) (by omega)
          have hc' : ∀ q, (F q).cell? ⟨W.heap.size, 1, none⟩ = some (.func (.func sf) #[] sb) := fun q => hF2 q _ _ _ (Ne.symm hbs) c2'
          have AK3 : Hid (∀ q, Keep blk W (F q)) := fun q => AK2.out.trans (hF2 q)
          have hF0 : (callFunc sf (#[.int .i64 kk, .int .i64 ((kk : Int) - 1)] ++ sb)).run P wr = .ok (.value (.tuple #[])) (F 0) := by
            rw [show (kk : Int) - 1 = ((kk - 1 : Nat) : Int) by omega]; exact hF 0
          have AF : Hid (∀ q, SWK enc k w0 blk off (rot d (kk - 1) m (m + 1)) (F q)) := fun q => by rw [← rot_down d kk m (by omega) hki (by omega)]; exact hF1 q
          clear hF hF1 hF2 hS2
          go_wp2
          go_roundw
          case rel => exact ⟨kk - 1, by go_num, by omega, by omega, AF.out _, hc' _, AK3.out _⟩
          case measure => simp [intOf]; omega
        · obtain rfl : i = kk := by omega
          have AF : Hid (SWK enc k w0 blk off (rot d i m (m + 1)) wr) := hS2
          clear hS2
          go_wp2
          (try simp only [Exit.inBlock, Exit.then])
          refine bodyPost_ret (results_none rfl _ _ _) rfl ?_
          exact ⟨rfl, AE.out ▸ AF.out, AK2.out⟩
set_option maxHeartbeats 4000000 in
set_option maxRecDepth 100000 in
theorem symMerge_3 (L : LaysGt.n30 P ρ) {enc : α → List Value} {k : Nat} {lt : α → α → Bool} {g : Nat} {lb : Array Value} {sf : Nat} {sb : Array Value} {blk off size : Nat} {w0 : World} (D : Data P enc k lt g lb sf sb blk off size w0) (f : Nat)
    (IH : ∀ (d : Array α) (_ : d.size = size) (W : World) (_ : SWK enc k w0 blk off d W) (a m b : Nat) (_ : b - a ≤ f) (_ : a < m) (_ : m < b) (_ : b ≤ size),
      Calls P (ρ.f 30) #[.agg #[.func (.func g) #[] lb, .func (.func sf) #[] sb], .int .i64 a, .int .i64 m, .int .i64 b] W fun e w' => e = .returned (.tuple #[]) ∧ SWK enc k w0 blk off (sm lt f d a m b) w' ∧ Keep blk W w')
    (d : Array α) (hs : d.size = size) (W : World) (hW : SWK enc k w0 blk off d W) (a m b : Nat) (hf : b - a ≤ f + 1) (h1 : a < m) (h2 : m < b) (h3 : b ≤ size) (c1 : ¬ m - a = 1) (c2 : ¬ b - m = 1) (mid : Nat) (hmid : (a + b) / 2 = mid) (hmm : mid < m) :
    Calls P (ρ.f 30) #[.agg #[.func (.func g) #[] lb, .func (.func sf) #[] sb], .int .i64 a, .int .i64 m, .int .i64 b] W fun e w' => e = .returned (.tuple #[]) ∧ SWK enc k w0 blk off (sm lt (f + 1) d a m b) w' ∧ Keep blk W w' := by
  have mixed := L.mixed; have t0 := L.t0; have a0 := L.a0; have z0 := L.z0; have v0 := L.v0; have t3 := L.t3; have a3 := L.a3; have z3 := L.z3; have v3 := L.v3; have t4 := L.t4; have a4 := L.a4; have z4 := L.z4; have v4 := L.v4; have t26 := L.t26; have a26 := L.a26; have z26 := L.z26; have v26 := L.v26; have t38 := L.t38; have a38 := L.a38; have z38 := L.z38; have v38 := L.v38; have t42 := L.t42; have a42 := L.a42; have z42 := L.z42; have v42 := L.v42; have t47 := L.t47; have a47 := L.a47; have z47 := L.z47; have v47 := L.v47
  have u42 := run_underlying L.t42
  have hbs : blk ≠ W.heap.size := by have := hW.le; have := D.hblk; omega
  have hsz := D.hsz
  have eg := D.eg
  have AIH : Hid (∀ (d : Array α) (_ : d.size = size) (W : World) (_ : SWK enc k w0 blk off d W) (a m b : Nat) (_ : b - a ≤ f) (_ : a < m) (_ : m < b) (_ : b ≤ size),
      Calls P (ρ.f 30) #[.agg #[.func (.func g) #[] lb, .func (.func sf) #[] sb], .int .i64 a, .int .i64 m, .int .i64 b] W fun e w' => e = .returned (.tuple #[]) ∧ SWK enc k w0 blk off (sm lt f d a m b) w' ∧ Keep blk W w') := IH
  clear IH
  have e30 : ∀ args w, (callFunc (ρ.f 30) args).run P w = .ok (.enter (ρ.f 30) args) w := enters_of L.f30 (by kernel_rfl) rfl
  have e42 : ∀ args w, (callFunc (ρ.f 42) args).run P w = .ok (.enter (ρ.f 42) args) w := enters_of L.f42 (by kernel_rfl) rfl
  have LR : LaysGt.n42 P ρ := { L with }
  have n1 : ¬ (m : Int) - a = 1 := by omega
  have n1b : ((m : Int) - a == 1) = false := beq_eq_false_iff_ne.mpr n1
  have n2 : ¬ (b : Int) - m = 1 := by omega
  have n2b : ((b : Int) - m == 1) = false := beq_eq_false_iff_ne.mpr n2
  have AMI : Hid ((mid : Int) = ((a : Int) + b) / 2) := by unfold Hid; omega
  have y0 : ((a : Int) + b) / 2 < m := by omega
  have AS : Hid (sm lt (f + 1) d a m b = (if mid < mid + m - (bs (fun c => !lt d[mid + m - 1 - c]! d[c]!) (mid + m - b) mid) ∧ mid + m - (bs (fun c => !lt d[mid + m - 1 - c]! d[c]!) (mid + m - b) mid) < b then sm lt f (if a < (bs (fun c => !lt d[mid + m - 1 - c]! d[c]!) (mid + m - b) mid) ∧ (bs (fun c => !lt d[mid + m - 1 - c]! d[c]!) (mid + m - b) mid) < mid then sm lt f (if (bs (fun c => !lt d[mid + m - 1 - c]! d[c]!) (mid + m - b) mid) < m ∧ m < mid + m - (bs (fun c => !lt d[mid + m - 1 - c]! d[c]!) (mid + m - b) mid) then rot d (bs (fun c => !lt d[mid + m - 1 - c]! d[c]!) (mid + m - b) mid) m (mid + m - (bs (fun c => !lt d[mid + m - 1 - c]! d[c]!) (mid + m - b) mid)) else d) a (bs (fun c => !lt d[mid + m - 1 - c]! d[c]!) (mid + m - b) mid) mid else (if (bs (fun c => !lt d[mid + m - 1 - c]! d[c]!) (mid + m - b) mid) < m ∧ m < mid + m - (bs (fun c => !lt d[mid + m - 1 - c]! d[c]!) (mid + m - b) mid) then rot d (bs (fun c => !lt d[mid + m - 1 - c]! d[c]!) (mid + m - b) mid) m (mid + m - (bs (fun c => !lt d[mid + m - 1 - c]! d[c]!) (mid + m - b) mid)) else d)) mid (mid + m - (bs (fun c => !lt d[mid + m - 1 - c]! d[c]!) (mid + m - b) mid)) b else (if a < (bs (fun c => !lt d[mid + m - 1 - c]! d[c]!) (mid + m - b) mid) ∧ (bs (fun c => !lt d[mid + m - 1 - c]! d[c]!) (mid + m - b) mid) < mid then sm lt f (if (bs (fun c => !lt d[mid + m - 1 - c]! d[c]!) (mid + m - b) mid) < m ∧ m < mid + m - (bs (fun c => !lt d[mid + m - 1 - c]! d[c]!) (mid + m - b) mid) then rot d (bs (fun c => !lt d[mid + m - 1 - c]! d[c]!) (mid + m - b) mid) m (mid + m - (bs (fun c => !lt d[mid + m - 1 - c]! d[c]!) (mid + m - b) mid)) else d) a (bs (fun c => !lt d[mid + m - 1 - c]! d[c]!) (mid + m - b) mid) mid else (if (bs (fun c => !lt d[mid + m - 1 - c]! d[c]!) (mid + m - b) mid) < m ∧ m < mid + m - (bs (fun c => !lt d[mid + m - 1 - c]! d[c]!) (mid + m - b) mid) then rot d (bs (fun c => !lt d[mid + m - 1 - c]! d[c]!) (mid + m - b) mid) m (mid + m - (bs (fun c => !lt d[mid + m - 1 - c]! d[c]!) (mid + m - b) mid)) else d)))) := by
    unfold Hid; rw [sm, if_neg c1, if_neg c2]; simp only [hmid]; simp only [if_pos hmm]
  go_enter L.f30, BodyGt.n30_ntmps ρ
  go_wp2
  go_loopw [18, 19] (fun vi vj wr => ∃ (s r : Nat), vi = .int .i64 s ∧ vj = .int .i64 r ∧ (mid + m - b) ≤ s ∧ s ≤ r ∧ r ≤ mid ∧ bs (fun c => !lt d[mid + m - 1 - c]! d[c]!) s r = bs (fun c => !lt d[mid + m - 1 - c]! d[c]!) (mid + m - b) mid ∧ SWK enc k w0 blk off d wr ∧
    wr.cell? ⟨W.heap.size, 0, none⟩ = some (.func (.func g) #[] lb) ∧ wr.cell? ⟨W.heap.size, 1, none⟩ = some (.func (.func sf) #[] sb) ∧ Keep blk W wr) (fun vi vj _ => (intOf vj).toNat - (intOf vi).toNat)
  case atStart => exact ⟨(mid + m - b), mid, by go_num, by go_num, Nat.le_refl _, by omega, Nat.le_refl _, rfl, hW.alloc _, by simp, by simp, Keep.alloc _ _ _⟩
  case round =>
    obtain ⟨s, r, rfl, rfl, hi, hij, hj, hb, hS, c0, c1', hK⟩ := hrel
    have AB : Hid (bs (fun c => !lt d[mid + m - 1 - c]! d[c]!) s r = bs (fun c => !lt d[mid + m - 1 - c]! d[c]!) (mid + m - b) mid) := hb
    have AK : Hid (Keep blk W wr) := hK
    have ASW : Hid (SWK enc k w0 blk off d wr) := hS
    clear hb hK hS
    by_cases hlt : s < r
    · have hl := D.lessCall hs ASW.out (mid + m - 1 - (s + r) / 2) ((s + r) / 2) (by omega) (by omega)
      rw [show ((mid + m - 1 - (s + r) / 2 : Nat) : Int) = ((a : Int) + b) / 2 + m - 1 - ((s : Int) + r) / 2 by omega, show (((s + r) / 2 : Nat) : Int) = ((s : Int) + r) / 2 by omega] at hl
      cases hlv : lt d[mid + m - 1 - (s + r) / 2]! d[(s + r) / 2]! with
      | false =>
        rw [hlv] at hl
        go_wp2_with (go_at_fn g; refine hl.mono ?_; rintro e w' ⟨rfl, q, rfl⟩)
        go_roundw
        case rel => exact ⟨(s + r) / 2 + 1, r, by go_num, rfl, by omega, by omega, hj, (bs_go1 (q := (fun c => !lt d[mid + m - 1 - c]! d[c]!)) hlt (by simp [hlv])).trans AB.out, ASW.out.drewN q, c0, c1', AK.out.drewN q⟩
        case measure => simp [intOf]; omega
      | true =>
        rw [hlv] at hl
        go_wp2_with (go_at_fn g; refine hl.mono ?_; rintro e w' ⟨rfl, q, rfl⟩)
        go_roundw
        case rel => exact ⟨s, (s + r) / 2, rfl, by go_num, hi, by omega, by omega, (bs_go0 (q := (fun c => !lt d[mid + m - 1 - c]! d[c]!)) hlt (by simp [hlv])).trans AB.out, ASW.out.drewN q, c0, c1', AK.out.drewN q⟩
        case measure => simp [intOf]; omega
    · obtain rfl : s = r := by omega
      have AE : Hid (sm lt (f + 1) d a m b = (if mid < mid + m - s ∧ mid + m - s < b then sm lt f (if a < s ∧ s < mid then sm lt f (if s < m ∧ m < mid + m - s then rot d s m (mid + m - s) else d) a s mid else (if s < m ∧ m < mid + m - s then rot d s m (mid + m - s) else d)) mid (mid + m - s) b else (if a < s ∧ s < mid then sm lt f (if s < m ∧ m < mid + m - s then rot d s m (mid + m - s) else d) a s mid else (if s < m ∧ m < mid + m - s then rot d s m (mid + m - s) else d)))) := by unfold Hid; rw [AS.out, ← AB.out, bs_stop]
      obtain ⟨e, he⟩ : ∃ e, mid + m - s = e := ⟨_, rfl⟩
      have AEI : Hid ((e : Int) = ((a : Int) + b) / 2 + m - s) := by unfold Hid; omega
      rw [he] at AE
      clear AS AB
      by_cases hx : s < mid
      · by_cases ha : a < s
        · by_cases he2 : e < b
          ·
            have u1 : (s : Int) < m := by omega
            have u2 : (m : Int) < ((a : Int) + b) / 2 + m - s := by omega
            have u3 : (a : Int) < s := by omega
            have u4 : (s : Int) < ((a : Int) + b) / 2 := by omega
            have u5 : ((a : Int) + b) / 2 < ((a : Int) + b) / 2 + m - s := by omega
            have u6 : ((a : Int) + b) / 2 + m - s < b := by omega
            have AX : Hid (sm lt (f + 1) d a m b = (sm lt f (sm lt f (rot d s m e) a s mid) mid e b)) := by unfold Hid; rw [AE.out, if_pos (show s < m ∧ m < e by omega), if_pos (show a < s ∧ s < mid by omega), if_pos (show mid < e ∧ e < b by omega)]
            clear AE
            have hc1 := rotate_cells LR D d hs _ ASW.out s m e (by omega) (by omega) (by omega)
            rw [AEI.out] at hc1
            go_wp2_with (go_at_fn (ρ.f 42); refine hc1.mono ?_; rintro _ w1 ⟨rfl, hS1, hK1⟩; have BS1 : Hid (SWK enc k w0 blk off (rot d s m e) w1) := hS1; have BK1 : Hid (Keep blk W w1) := AK.out.trans hK1; have k1 := hK1 _ _ _ (Ne.symm hbs) c0; have l1 := hK1 _ _ _ (Ne.symm hbs) c1'; clear hS1 hK1)
            clear hc1
            have hc2 := AIH.out (rot d s m e) (by simp [hs]) _ BS1.out a s mid (by omega) (by omega) (by omega) (by omega)
            rw [AMI.out] at hc2
            go_wp2_with (go_at_fn (ρ.f 30); refine hc2.mono ?_; rintro _ w2 ⟨rfl, hS2, hK2⟩; have BS2 : Hid (SWK enc k w0 blk off (sm lt f (rot d s m e) a s mid) w2) := hS2; have BK2 : Hid (Keep blk W w2) := BK1.out.trans hK2; have k2 := hK2 _ _ _ (Ne.symm hbs) k1; have l2 := hK2 _ _ _ (Ne.symm hbs) l1; clear hS2 hK2)
            clear hc2
            have hc3 := AIH.out (sm lt f (rot d s m e) a s mid) (by simp [hs]) _ BS2.out mid e b (by omega) (by omega) (by omega) (by omega)
            rw [AMI.out, AEI.out] at hc3
            go_wp2_with (go_at_fn (ρ.f 30); refine hc3.mono ?_; rintro _ w3 ⟨rfl, hS3, hK3⟩; have BS3 : Hid (SWK enc k w0 blk off (sm lt f (sm lt f (rot d s m e) a s mid) mid e b) w3) := hS3; have BK3 : Hid (Keep blk W w3) := BK2.out.trans hK3; have k3 := hK3 _ _ _ (Ne.symm hbs) k2; have l3 := hK3 _ _ _ (Ne.symm hbs) l2; clear hS3 hK3)
            clear hc3
            go_end0
            exact ⟨rfl, by rw [AX.out]; exact BS3.out, BK3.out⟩
          ·
            have u1 : (s : Int) < m := by omega
            have u2 : (m : Int) < ((a : Int) + b) / 2 + m - s := by omega
            have u3 : (a : Int) < s := by omega
            have u4 : (s : Int) < ((a : Int) + b) / 2 := by omega
            have u5 : ((a : Int) + b) / 2 < ((a : Int) + b) / 2 + m - s := by omega
            have u6 : ¬ (((a : Int) + b) / 2 + m - s < b) := by omega
            have AX : Hid (sm lt (f + 1) d a m b = (sm lt f (rot d s m e) a s mid)) := by unfold Hid; rw [AE.out, if_pos (show s < m ∧ m < e by omega), if_pos (show a < s ∧ s < mid by omega), if_neg (show ¬ (mid < e ∧ e < b) by omega)]
            clear AE
            have hc1 := rotate_cells LR D d hs _ ASW.out s m e (by omega) (by omega) (by omega)
            rw [AEI.out] at hc1
            go_wp2_with (go_at_fn (ρ.f 42); refine hc1.mono ?_; rintro _ w1 ⟨rfl, hS1, hK1⟩; have BS1 : Hid (SWK enc k w0 blk off (rot d s m e) w1) := hS1; have BK1 : Hid (Keep blk W w1) := AK.out.trans hK1; have k1 := hK1 _ _ _ (Ne.symm hbs) c0; have l1 := hK1 _ _ _ (Ne.symm hbs) c1'; clear hS1 hK1)
            clear hc1
            have hc2 := AIH.out (rot d s m e) (by simp [hs]) _ BS1.out a s mid (by omega) (by omega) (by omega) (by omega)
            rw [AMI.out] at hc2
            go_wp2_with (go_at_fn (ρ.f 30); refine hc2.mono ?_; rintro _ w2 ⟨rfl, hS2, hK2⟩; have BS2 : Hid (SWK enc k w0 blk off (sm lt f (rot d s m e) a s mid) w2) := hS2; have BK2 : Hid (Keep blk W w2) := BK1.out.trans hK2; have k2 := hK2 _ _ _ (Ne.symm hbs) k1; have l2 := hK2 _ _ _ (Ne.symm hbs) l1; clear hS2 hK2)
            clear hc2
            go_end0
            exact ⟨rfl, by rw [AX.out]; exact BS2.out, BK2.out⟩
        · by_cases he2 : e < b
          ·
            have u1 : (s : Int) < m := by omega
            have u2 : (m : Int) < ((a : Int) + b) / 2 + m - s := by omega
            have u3 : ¬ ((a : Int) < s) := by omega
            have u5 : ((a : Int) + b) / 2 < ((a : Int) + b) / 2 + m - s := by omega
            have u6 : ((a : Int) + b) / 2 + m - s < b := by omega
            have AX : Hid (sm lt (f + 1) d a m b = (sm lt f (rot d s m e) mid e b)) := by unfold Hid; rw [AE.out, if_pos (show s < m ∧ m < e by omega), if_neg (show ¬ (a < s ∧ s < mid) by omega), if_pos (show mid < e ∧ e < b by omega)]
            clear AE
            have hc1 := rotate_cells LR D d hs _ ASW.out s m e (by omega) (by omega) (by omega)
            rw [AEI.out] at hc1
            go_wp2_with (go_at_fn (ρ.f 42); refine hc1.mono ?_; rintro _ w1 ⟨rfl, hS1, hK1⟩; have BS1 : Hid (SWK enc k w0 blk off (rot d s m e) w1) := hS1; have BK1 : Hid (Keep blk W w1) := AK.out.trans hK1; have k1 := hK1 _ _ _ (Ne.symm hbs) c0; have l1 := hK1 _ _ _ (Ne.symm hbs) c1'; clear hS1 hK1)
            clear hc1
            have hc2 := AIH.out (rot d s m e) (by simp [hs]) _ BS1.out mid e b (by omega) (by omega) (by omega) (by omega)
            rw [AMI.out, AEI.out] at hc2
            go_wp2_with (go_at_fn (ρ.f 30); refine hc2.mono ?_; rintro _ w2 ⟨rfl, hS2, hK2⟩; have BS2 : Hid (SWK enc k w0 blk off (sm lt f (rot d s m e) mid e b) w2) := hS2; have BK2 : Hid (Keep blk W w2) := BK1.out.trans hK2; have k2 := hK2 _ _ _ (Ne.symm hbs) k1; have l2 := hK2 _ _ _ (Ne.symm hbs) l1; clear hS2 hK2)
            clear hc2
            go_end0
            exact ⟨rfl, by rw [AX.out]; exact BS2.out, BK2.out⟩
          ·
            have u1 : (s : Int) < m := by omega
            have u2 : (m : Int) < ((a : Int) + b) / 2 + m - s := by omega
            have u3 : ¬ ((a : Int) < s) := by omega
            have u5 : ((a : Int) + b) / 2 < ((a : Int) + b) / 2 + m - s := by omega
            have u6 : ¬ (((a : Int) + b) / 2 + m - s < b) := by omega
            have AX : Hid (sm lt (f + 1) d a m b = (rot d s m e)) := by unfold Hid; rw [AE.out, if_pos (show s < m ∧ m < e by omega), if_neg (show ¬ (a < s ∧ s < mid) by omega), if_neg (show ¬ (mid < e ∧ e < b) by omega)]
            clear AE
            have hc1 := rotate_cells LR D d hs _ ASW.out s m e (by omega) (by omega) (by omega)
            rw [AEI.out] at hc1
            go_wp2_with (go_at_fn (ρ.f 42); refine hc1.mono ?_; rintro _ w1 ⟨rfl, hS1, hK1⟩; have BS1 : Hid (SWK enc k w0 blk off (rot d s m e) w1) := hS1; have BK1 : Hid (Keep blk W w1) := AK.out.trans hK1; have k1 := hK1 _ _ _ (Ne.symm hbs) c0; have l1 := hK1 _ _ _ (Ne.symm hbs) c1'; clear hS1 hK1)
            clear hc1
            go_end0
            exact ⟨rfl, by rw [AX.out]; exact BS1.out, BK1.out⟩
      ·
        have u1 : (s : Int) < m := by omega
        have u2 : ¬ ((m : Int) < ((a : Int) + b) / 2 + m - s) := by omega
        have u3 : (a : Int) < s := by omega
        have u4 : ¬ ((s : Int) < ((a : Int) + b) / 2) := by omega
        have u5 : ((a : Int) + b) / 2 < ((a : Int) + b) / 2 + m - s := by omega
        have u6 : ((a : Int) + b) / 2 + m - s < b := by omega
        have AX : Hid (sm lt (f + 1) d a m b = (sm lt f d mid e b)) := by unfold Hid; rw [AE.out, if_neg (show ¬ (s < m ∧ m < e) by omega), if_neg (show ¬ (a < s ∧ s < mid) by omega), if_pos (show mid < e ∧ e < b by omega)]
        clear AE
        have hc1 := AIH.out d hs _ ASW.out mid e b (by omega) (by omega) (by omega) (by omega)
        rw [AMI.out, AEI.out] at hc1
        go_wp2_with (go_at_fn (ρ.f 30); refine hc1.mono ?_; rintro _ w1 ⟨rfl, hS1, hK1⟩; have BS1 : Hid (SWK enc k w0 blk off (sm lt f d mid e b) w1) := hS1; have BK1 : Hid (Keep blk W w1) := AK.out.trans hK1; have k1 := hK1 _ _ _ (Ne.symm hbs) c0; have l1 := hK1 _ _ _ (Ne.symm hbs) c1'; clear hS1 hK1)
        clear hc1
        go_end0
        exact ⟨rfl, by rw [AX.out]; exact BS1.out, BK1.out⟩
set_option maxHeartbeats 4000000 in
set_option maxRecDepth 100000 in
theorem symMerge_4 (L : LaysGt.n30 P ρ) {enc : α → List Value} {k : Nat} {lt : α → α → Bool} {g : Nat} {lb : Array Value} {sf : Nat} {sb : Array Value} {blk off size : Nat} {w0 : World} (D : Data P enc k lt g lb sf sb blk off size w0) (f : Nat)
    (IH : ∀ (d : Array α) (_ : d.size = size) (W : World) (_ : SWK enc k w0 blk off d W) (a m b : Nat) (_ : b - a ≤ f) (_ : a < m) (_ : m < b) (_ : b ≤ size),
      Calls P (ρ.f 30) #[.agg #[.func (.func g) #[] lb, .func (.func sf) #[] sb], .int .i64 a, .int .i64 m, .int .i64 b] W fun e w' => e = .returned (.tuple #[]) ∧ SWK enc k w0 blk off (sm lt f d a m b) w' ∧ Keep blk W w')
    (d : Array α) (hs : d.size = size) (W : World) (hW : SWK enc k w0 blk off d W) (a m b : Nat) (hf : b - a ≤ f + 1) (h1 : a < m) (h2 : m < b) (h3 : b ≤ size) (c1 : ¬ m - a = 1) (c2 : ¬ b - m = 1) (mid : Nat) (hmid : (a + b) / 2 = mid) (hmm : ¬ mid < m) :
    Calls P (ρ.f 30) #[.agg #[.func (.func g) #[] lb, .func (.func sf) #[] sb], .int .i64 a, .int .i64 m, .int .i64 b] W fun e w' => e = .returned (.tuple #[]) ∧ SWK enc k w0 blk off (sm lt (f + 1) d a m b) w' ∧ Keep blk W w' := by
  have mixed := L.mixed; have t0 := L.t0; have a0 := L.a0; have z0 := L.z0; have v0 := L.v0; have t3 := L.t3; have a3 := L.a3; have z3 := L.z3; have v3 := L.v3; have t4 := L.t4; have a4 := L.a4; have z4 := L.z4; have v4 := L.v4; have t26 := L.t26; have a26 := L.a26; have z26 := L.z26; have v26 := L.v26; have t38 := L.t38; have a38 := L.a38; have z38 := L.z38; have v38 := L.v38; have t42 := L.t42; have a42 := L.a42; have z42 := L.z42; have v42 := L.v42; have t47 := L.t47; have a47 := L.a47; have z47 := L.z47; have v47 := L.v47
  have u42 := run_underlying L.t42
  have hbs : blk ≠ W.heap.size := by have := hW.le; have := D.hblk; omega
  have hsz := D.hsz
  have eg := D.eg
  have AIH : Hid (∀ (d : Array α) (_ : d.size = size) (W : World) (_ : SWK enc k w0 blk off d W) (a m b : Nat) (_ : b - a ≤ f) (_ : a < m) (_ : m < b) (_ : b ≤ size),
      Calls P (ρ.f 30) #[.agg #[.func (.func g) #[] lb, .func (.func sf) #[] sb], .int .i64 a, .int .i64 m, .int .i64 b] W fun e w' => e = .returned (.tuple #[]) ∧ SWK enc k w0 blk off (sm lt f d a m b) w' ∧ Keep blk W w') := IH
  clear IH
  have e30 : ∀ args w, (callFunc (ρ.f 30) args).run P w = .ok (.enter (ρ.f 30) args) w := enters_of L.f30 (by kernel_rfl) rfl
  have e42 : ∀ args w, (callFunc (ρ.f 42) args).run P w = .ok (.enter (ρ.f 42) args) w := enters_of L.f42 (by kernel_rfl) rfl
  have LR : LaysGt.n42 P ρ := { L with }
  have n1 : ¬ (m : Int) - a = 1 := by omega
  have n1b : ((m : Int) - a == 1) = false := beq_eq_false_iff_ne.mpr n1
  have n2 : ¬ (b : Int) - m = 1 := by omega
  have n2b : ((b : Int) - m == 1) = false := beq_eq_false_iff_ne.mpr n2
  have AMI : Hid ((mid : Int) = ((a : Int) + b) / 2) := by unfold Hid; omega
  have y0 : ¬ ((a : Int) + b) / 2 < m := by omega
  have AS : Hid (sm lt (f + 1) d a m b = (if mid < mid + m - (bs (fun c => !lt d[mid + m - 1 - c]! d[c]!) a m) ∧ mid + m - (bs (fun c => !lt d[mid + m - 1 - c]! d[c]!) a m) < b then sm lt f (if a < (bs (fun c => !lt d[mid + m - 1 - c]! d[c]!) a m) ∧ (bs (fun c => !lt d[mid + m - 1 - c]! d[c]!) a m) < mid then sm lt f (if (bs (fun c => !lt d[mid + m - 1 - c]! d[c]!) a m) < m ∧ m < mid + m - (bs (fun c => !lt d[mid + m - 1 - c]! d[c]!) a m) then rot d (bs (fun c => !lt d[mid + m - 1 - c]! d[c]!) a m) m (mid + m - (bs (fun c => !lt d[mid + m - 1 - c]! d[c]!) a m)) else d) a (bs (fun c => !lt d[mid + m - 1 - c]! d[c]!) a m) mid else (if (bs (fun c => !lt d[mid + m - 1 - c]! d[c]!) a m) < m ∧ m < mid + m - (bs (fun c => !lt d[mid + m - 1 - c]! d[c]!) a m) then rot d (bs (fun c => !lt d[mid + m - 1 - c]! d[c]!) a m) m (mid + m - (bs (fun c => !lt d[mid + m - 1 - c]! d[c]!) a m)) else d)) mid (mid + m - (bs (fun c => !lt d[mid + m - 1 - c]! d[c]!) a m)) b else (if a < (bs (fun c => !lt d[mid + m - 1 - c]! d[c]!) a m) ∧ (bs (fun c => !lt d[mid + m - 1 - c]! d[c]!) a m) < mid then sm lt f (if (bs (fun c => !lt d[mid + m - 1 - c]! d[c]!) a m) < m ∧ m < mid + m - (bs (fun c => !lt d[mid + m - 1 - c]! d[c]!) a m) then rot d (bs (fun c => !lt d[mid + m - 1 - c]! d[c]!) a m) m (mid + m - (bs (fun c => !lt d[mid + m - 1 - c]! d[c]!) a m)) else d) a (bs (fun c => !lt d[mid + m - 1 - c]! d[c]!) a m) mid else (if (bs (fun c => !lt d[mid + m - 1 - c]! d[c]!) a m) < m ∧ m < mid + m - (bs (fun c => !lt d[mid + m - 1 - c]! d[c]!) a m) then rot d (bs (fun c => !lt d[mid + m - 1 - c]! d[c]!) a m) m (mid + m - (bs (fun c => !lt d[mid + m - 1 - c]! d[c]!) a m)) else d)))) := by
    unfold Hid; rw [sm, if_neg c1, if_neg c2]; simp only [hmid]; simp only [if_neg hmm]
  go_enter L.f30, BodyGt.n30_ntmps ρ
  go_wp2
  go_loopw [18, 19] (fun vi vj wr => ∃ (s r : Nat), vi = .int .i64 s ∧ vj = .int .i64 r ∧ a ≤ s ∧ s ≤ r ∧ r ≤ m ∧ bs (fun c => !lt d[mid + m - 1 - c]! d[c]!) s r = bs (fun c => !lt d[mid + m - 1 - c]! d[c]!) a m ∧ SWK enc k w0 blk off d wr ∧
    wr.cell? ⟨W.heap.size, 0, none⟩ = some (.func (.func g) #[] lb) ∧ wr.cell? ⟨W.heap.size, 1, none⟩ = some (.func (.func sf) #[] sb) ∧ Keep blk W wr) (fun vi vj _ => (intOf vj).toNat - (intOf vi).toNat)
  case atStart => exact ⟨a, m, by go_num, by go_num, Nat.le_refl _, by omega, Nat.le_refl _, rfl, hW.alloc _, by simp, by simp, Keep.alloc _ _ _⟩
  case round =>
    obtain ⟨s, r, rfl, rfl, hi, hij, hj, hb, hS, c0, c1', hK⟩ := hrel
    have AB : Hid (bs (fun c => !lt d[mid + m - 1 - c]! d[c]!) s r = bs (fun c => !lt d[mid + m - 1 - c]! d[c]!) a m) := hb
    have AK : Hid (Keep blk W wr) := hK
    have ASW : Hid (SWK enc k w0 blk off d wr) := hS
    clear hb hK hS
    by_cases hlt : s < r
    · have hl := D.lessCall hs ASW.out (mid + m - 1 - (s + r) / 2) ((s + r) / 2) (by omega) (by omega)
      rw [show ((mid + m - 1 - (s + r) / 2 : Nat) : Int) = ((a : Int) + b) / 2 + m - 1 - ((s : Int) + r) / 2 by omega, show (((s + r) / 2 : Nat) : Int) = ((s : Int) + r) / 2 by omega] at hl
      cases hlv : lt d[mid + m - 1 - (s + r) / 2]! d[(s + r) / 2]! with
      | false =>
        rw [hlv] at hl
        go_wp2_with (go_at_fn g; refine hl.mono ?_; rintro e w' ⟨rfl, q, rfl⟩)
        go_roundw
        case rel => exact ⟨(s + r) / 2 + 1, r, by go_num, rfl, by omega, by omega, hj, (bs_go1 (q := (fun c => !lt d[mid + m - 1 - c]! d[c]!)) hlt (by simp [hlv])).trans AB.out, ASW.out.drewN q, c0, c1', AK.out.drewN q⟩
        case measure => simp [intOf]; omega
      | true =>
        rw [hlv] at hl
        go_wp2_with (go_at_fn g; refine hl.mono ?_; rintro e w' ⟨rfl, q, rfl⟩)
        go_roundw
        case rel => exact ⟨s, (s + r) / 2, rfl, by go_num, hi, by omega, by omega, (bs_go0 (q := (fun c => !lt d[mid + m - 1 - c]! d[c]!)) hlt (by simp [hlv])).trans AB.out, ASW.out.drewN q, c0, c1', AK.out.drewN q⟩
        case measure => simp [intOf]; omega
    · obtain rfl : s = r := by omega
      have AE : Hid (sm lt (f + 1) d a m b = (if mid < mid + m - s ∧ mid + m - s < b then sm lt f (if a < s ∧ s < mid then sm lt f (if s < m ∧ m < mid + m - s then rot d s m (mid + m - s) else d) a s mid else (if s < m ∧ m < mid + m - s then rot d s m (mid + m - s) else d)) mid (mid + m - s) b else (if a < s ∧ s < mid then sm lt f (if s < m ∧ m < mid + m - s then rot d s m (mid + m - s) else d) a s mid else (if s < m ∧ m < mid + m - s then rot d s m (mid + m - s) else d)))) := by unfold Hid; rw [AS.out, ← AB.out, bs_stop]
      obtain ⟨e, he⟩ : ∃ e, mid + m - s = e := ⟨_, rfl⟩
      have AEI : Hid ((e : Int) = ((a : Int) + b) / 2 + m - s) := by unfold Hid; omega
      rw [he] at AE
      clear AS AB
      by_cases hx : s < m
      · by_cases ha : a < s
        · by_cases he2 : e < b
          ·
            have u1 : (s : Int) < m := by omega
            have u2 : (m : Int) < ((a : Int) + b) / 2 + m - s := by omega
            have u3 : (a : Int) < s := by omega
            have u4 : (s : Int) < ((a : Int) + b) / 2 := by omega
            have u5 : ((a : Int) + b) / 2 < ((a : Int) + b) / 2 + m - s := by omega
            have u6 : ((a : Int) + b) / 2 + m - s < b := by omega
            have AX : Hid (sm lt (f + 1) d a m b = (sm lt f (sm lt f (rot d s m e) a s mid) mid e b)) := by unfold Hid; rw [AE.out, if_pos (show s < m ∧ m < e by omega), if_pos (show a < s ∧ s < mid by omega), if_pos (show mid < e ∧ e < b by omega)]
            clear AE
            have hc1 := rotate_cells LR D d hs _ ASW.out s m e (by omega) (by omega) (by omega)
            rw [AEI.out] at hc1
            go_wp2_with (go_at_fn (ρ.f 42); refine hc1.mono ?_; rintro _ w1 ⟨rfl, hS1, hK1⟩; have BS1 : Hid (SWK enc k w0 blk off (rot d s m e) w1) := hS1; have BK1 : Hid (Keep blk W w1) := AK.out.trans hK1; have k1 := hK1 _ _ _ (Ne.symm hbs) c0; have l1 := hK1 _ _ _ (Ne.symm hbs) c1'; clear hS1 hK1)
            clear hc1
            have hc2 := AIH.out (rot d s m e) (by simp [hs]) _ BS1.out a s mid (by omega) (by omega) (by omega) (by omega)
            rw [AMI.out] at hc2
            go_wp2_with (go_at_fn (ρ.f 30); refine hc2.mono ?_; rintro _ w2 ⟨rfl, hS2, hK2⟩; have BS2 : Hid (SWK enc k w0 blk off (sm lt f (rot d s m e) a s mid) w2) := hS2; have BK2 : Hid (Keep blk W w2) := BK1.out.trans hK2; have k2 := hK2 _ _ _ (Ne.symm hbs) k1; have l2 := hK2 _ _ _ (Ne.symm hbs) l1; clear hS2 hK2)
            clear hc2
            have hc3 := AIH.out (sm lt f (rot d s m e) a s mid) (by simp [hs]) _ BS2.out mid e b (by omega) (by omega) (by omega) (by omega)
            rw [AMI.out, AEI.out] at hc3
            go_wp2_with (go_at_fn (ρ.f 30); refine hc3.mono ?_; rintro _ w3 ⟨rfl, hS3, hK3⟩; have BS3 : Hid (SWK enc k w0 blk off (sm lt f (sm lt f (rot d s m e) a s mid) mid e b) w3) := hS3; have BK3 : Hid (Keep blk W w3) := BK2.out.trans hK3; have k3 := hK3 _ _ _ (Ne.symm hbs) k2; have l3 := hK3 _ _ _ (Ne.symm hbs) l2; clear hS3 hK3)
            clear hc3
            go_end0
            exact ⟨rfl, by rw [AX.out]; exact BS3.out, BK3.out⟩
          · exfalso; omega
        · by_cases he2 : e < b
          ·
            have u1 : (s : Int) < m := by omega
            have u2 : (m : Int) < ((a : Int) + b) / 2 + m - s := by omega
            have u3 : ¬ ((a : Int) < s) := by omega
            have u5 : ((a : Int) + b) / 2 < ((a : Int) + b) / 2 + m - s := by omega
            have u6 : ((a : Int) + b) / 2 + m - s < b := by omega
            have AX : Hid (sm lt (f + 1) d a m b = (sm lt f (rot d s m e) mid e b)) := by unfold Hid; rw [AE.out, if_pos (show s < m ∧ m < e by omega), if_neg (show ¬ (a < s ∧ s < mid) by omega), if_pos (show mid < e ∧ e < b by omega)]
            clear AE
            have hc1 := rotate_cells LR D d hs _ ASW.out s m e (by omega) (by omega) (by omega)
            rw [AEI.out] at hc1
            go_wp2_with (go_at_fn (ρ.f 42); refine hc1.mono ?_; rintro _ w1 ⟨rfl, hS1, hK1⟩; have BS1 : Hid (SWK enc k w0 blk off (rot d s m e) w1) := hS1; have BK1 : Hid (Keep blk W w1) := AK.out.trans hK1; have k1 := hK1 _ _ _ (Ne.symm hbs) c0; have l1 := hK1 _ _ _ (Ne.symm hbs) c1'; clear hS1 hK1)
            clear hc1
            have hc2 := AIH.out (rot d s m e) (by simp [hs]) _ BS1.out mid e b (by omega) (by omega) (by omega) (by omega)
            rw [AMI.out, AEI.out] at hc2
            go_wp2_with (go_at_fn (ρ.f 30); refine hc2.mono ?_; rintro _ w2 ⟨rfl, hS2, hK2⟩; have BS2 : Hid (SWK enc k w0 blk off (sm lt f (rot d s m e) mid e b) w2) := hS2; have BK2 : Hid (Keep blk W w2) := BK1.out.trans hK2; have k2 := hK2 _ _ _ (Ne.symm hbs) k1; have l2 := hK2 _ _ _ (Ne.symm hbs) l1; clear hS2 hK2)
            clear hc2
            go_end0
            exact ⟨rfl, by rw [AX.out]; exact BS2.out, BK2.out⟩
          ·
            have u1 : (s : Int) < m := by omega
            have u2 : (m : Int) < ((a : Int) + b) / 2 + m - s := by omega
            have u3 : ¬ ((a : Int) < s) := by omega
            have u5 : ((a : Int) + b) / 2 < ((a : Int) + b) / 2 + m - s := by omega
            have u6 : ¬ (((a : Int) + b) / 2 + m - s < b) := by omega
            have AX : Hid (sm lt (f + 1) d a m b = (rot d s m e)) := by unfold Hid; rw [AE.out, if_pos (show s < m ∧ m < e by omega), if_neg (show ¬ (a < s ∧ s < mid) by omega), if_neg (show ¬ (mid < e ∧ e < b) by omega)]
            clear AE
            have hc1 := rotate_cells LR D d hs _ ASW.out s m e (by omega) (by omega) (by omega)
            rw [AEI.out] at hc1
            go_wp2_with (go_at_fn (ρ.f 42); refine hc1.mono ?_; rintro _ w1 ⟨rfl, hS1, hK1⟩; have BS1 : Hid (SWK enc k w0 blk off (rot d s m e) w1) := hS1; have BK1 : Hid (Keep blk W w1) := AK.out.trans hK1; have k1 := hK1 _ _ _ (Ne.symm hbs) c0; have l1 := hK1 _ _ _ (Ne.symm hbs) c1'; clear hS1 hK1)
            clear hc1
            go_end0
            exact ⟨rfl, by rw [AX.out]; exact BS1.out, BK1.out⟩
      · by_cases ha : m < mid
        ·
          have u1 : ¬ ((s : Int) < m) := by omega
          have u3 : (a : Int) < s := by omega
          have u4 : (s : Int) < ((a : Int) + b) / 2 := by omega
          have u5 : ¬ (((a : Int) + b) / 2 < ((a : Int) + b) / 2 + m - s) := by omega
          have AX : Hid (sm lt (f + 1) d a m b = (sm lt f d a s mid)) := by unfold Hid; rw [AE.out, if_neg (show ¬ (s < m ∧ m < e) by omega), if_pos (show a < s ∧ s < mid by omega), if_neg (show ¬ (mid < e ∧ e < b) by omega)]
          clear AE
          have hc1 := AIH.out d hs _ ASW.out a s mid (by omega) (by omega) (by omega) (by omega)
          rw [AMI.out] at hc1
          go_wp2_with (go_at_fn (ρ.f 30); refine hc1.mono ?_; rintro _ w1 ⟨rfl, hS1, hK1⟩; have BS1 : Hid (SWK enc k w0 blk off (sm lt f d a s mid) w1) := hS1; have BK1 : Hid (Keep blk W w1) := AK.out.trans hK1; have k1 := hK1 _ _ _ (Ne.symm hbs) c0; have l1 := hK1 _ _ _ (Ne.symm hbs) c1'; clear hS1 hK1)
          clear hc1
          go_end0
          exact ⟨rfl, by rw [AX.out]; exact BS1.out, BK1.out⟩
        ·
          have u1 : ¬ ((s : Int) < m) := by omega
          have u3 : (a : Int) < s := by omega
          have u4 : ¬ ((s : Int) < ((a : Int) + b) / 2) := by omega
          have u5 : ¬ (((a : Int) + b) / 2 < ((a : Int) + b) / 2 + m - s) := by omega
          have AX : Hid (sm lt (f + 1) d a m b = d) := by unfold Hid; rw [AE.out, if_neg (show ¬ (s < m ∧ m < e) by omega), if_neg (show ¬ (a < s ∧ s < mid) by omega), if_neg (show ¬ (mid < e ∧ e < b) by omega)]
          clear AE
          go_wp2
          go_end0
          exact ⟨rfl, by rw [AX.out]; exact ASW.out, AK.out⟩
theorem symMerge_cells (L : LaysGt.n30 P ρ) {enc : α → List Value} {k : Nat} {lt : α → α → Bool} {g : Nat} {lb : Array Value} {sf : Nat} {sb : Array Value} {blk off size : Nat} {w0 : World} (D : Data P enc k lt g lb sf sb blk off size w0) : ∀ (f : Nat)
    (d : Array α) (_ : d.size = size) (W : World) (_ : SWK enc k w0 blk off d W) (a m b : Nat) (_ : b - a ≤ f) (_ : a < m) (_ : m < b) (_ : b ≤ size),
    Calls P (ρ.f 30) #[.agg #[.func (.func g) #[] lb, .func (.func sf) #[] sb], .int .i64 a, .int .i64 m, .int .i64 b] W fun e w' => e = .returned (.tuple #[]) ∧ SWK enc k w0 blk off (sm lt f d a m b) w' ∧ Keep blk W w'
  | 0, _, _, _, _, _, _, _, hf, _, _, _ => by omega
  | f + 1, d, hs, W, hW, a, m, b, hf, h1, h2, h3 => by
    by_cases c1 : m - a = 1
    · exact symMerge_1 L D f d hs W hW a m b hf h1 h2 h3 c1
    · by_cases c2 : b - m = 1
      · exact symMerge_2 L D f d hs W hW a m b hf h1 h2 h3 c1 c2
      · by_cases hmm : (a + b) / 2 < m
        · exact symMerge_3 L D f (symMerge_cells L D f) d hs W hW a m b hf h1 h2 h3 c1 c2 _ rfl hmm
        · exact symMerge_4 L D f (symMerge_cells L D f) d hs W hW a m b hf h1 h2 h3 c1 c2 _ rfl hmm

theorem SWK.lessReads {enc : α → List Value} {k : Nat} {w0 W : World} {blk off : Nat} {dk : Array α} {g : Nat} {lb : Array Value} {lt : α → α → Bool} {size : Nat} (h : SWK enc k w0 blk off dk W) (hL : LessReadsK P g lb enc k lt blk off size w0) (hblk : blk < w0.heap.size) (hs : dk.size = size) :
    LessReadsK P g lb enc k lt blk off size W := fun m os dk' hs' i j hi hj => (h.on hblk m dk' os (hs'.trans hs.symm)).less hL hs' i j hi hj
theorem size_insInner (lt : α → α → Bool) (a : Nat) : ∀ (j : Nat) (d : Array α), (insInner lt a j d).size = d.size
  | 0, d => by rw [insInner]
  | j + 1, d => by
    rw [insInner]
    split
    · rw [size_insInner lt a j, size_swp]
    · rfl
theorem size_insOuter (lt : α → α → Bool) (a b : Nat) : ∀ (n i : Nat) (d : Array α), b - i ≤ n → (insOuter lt a b i d).size = d.size
  | n, i, d, h => by
    rw [insOuter]
    split
    · cases n with
      | zero => omega
      | succ n => rw [size_insOuter lt a b n _ _ (by omega), size_insInner]
    · rfl
@[simp] theorem size_ins (lt : α → α → Bool) (d : Array α) (a b : Nat) : (insertionSort lt d a b).size = d.size := size_insOuter lt a b _ _ d (Nat.le_refl _)
theorem ins_cells (L : LaysGt.n29 P ρ) {enc : α → List Value} {k : Nat} {lt : α → α → Bool} {g : Nat} {lb : Array Value} {sf : Nat} {sb : Array Value} {blk off size : Nat} {w0 : World} (D : Data P enc k lt g lb sf sb blk off size w0)
    (d : Array α) (hs : d.size = size) (W : World) (hW : SWK enc k w0 blk off d W) (a b : Nat) (h1 : a ≤ b) (h2 : b ≤ size) :
    Calls P (ρ.f 29) #[.agg #[.func (.func g) #[] lb, .func (.func sf) #[] sb], .int .i64 a, .int .i64 b] W fun e w' => e = .returned (.tuple #[]) ∧ SWK enc k w0 blk off (insertionSort lt d a b) w' ∧ Keep blk W w' := by
  obtain ⟨d0, h0, hs0⟩ := D.holds
  have hsz := D.hsz
  have hbW : blk < W.heap.size := Nat.lt_of_lt_of_le D.hblk hW.le
  have hl : LessReadsK P g lb enc k lt blk off d.size W := by rw [hs]; exact hW.lessReads D.less D.hblk hs
  have hw : SwapSwapsK P sf sb enc k blk off d.size := by rw [hs]; exact D.swap
  refine (Any.insertionSort_func_cells (ρ := ρ.viaGt) L.elder enc k D.hk lt g lb sf sb blk off a b d W D.eg hl hw (hW.holds D.hblk h0 (hs.trans hs0.symm)) hbW h1 (by omega) (by omega)).mono ?_
  rintro e w' ⟨rfl, n, rfl⟩
  refine ⟨rfl, ?_, fun b o v hb hc => ?_⟩
  · have := (hW.alloc (.cells #[.func (.func g) #[] lb, .func (.func sf) #[] sb] (ρ.viaGt.t 44))).on D.hblk n (insertionSort lt d a b) #[] (by simp [size_ins])
    unfold sortWorldK at this
    rw [grow_empty] at this
    exact this
  · rw [cell?_putRowK_other enc k _ blk off _ _ hb]
    exact Keep.alloc blk W _ b o v hb hc
theorem stBlocks_go {lt : α → α → Bool} {n a : Nat} {d : Array α} (h : a + 20 ≤ n) : stBlocks lt n (a + 20) (insertionSort lt d a (a + 20)) = stBlocks lt n a d := by
  conv => rhs; rw [stBlocks, if_pos h]
theorem stBlocks_end {lt : α → α → Bool} {n a : Nat} {d : Array α} (h : ¬ a + 20 ≤ n) : insertionSort lt d a n = stBlocks lt n a d := by
  conv => rhs; rw [stBlocks, if_neg h]
theorem stPass_go {lt : α → α → Bool} {n s a : Nat} {d : Array α} (h0 : 0 < s) (h : a + 2 * s ≤ n) : stPass lt n s (a + 2 * s) (sm lt (2 * s) d a (a + s) (a + 2 * s)) = stPass lt n s a d := by
  conv => rhs; rw [stPass, if_pos ⟨h0, h⟩]
theorem stPass_last {lt : α → α → Bool} {n s a : Nat} {d : Array α} (h : ¬ a + 2 * s ≤ n) (h2 : a + s < n) : sm lt (n - a) d a (a + s) n = stPass lt n s a d := by
  conv => rhs; rw [stPass, if_neg (fun x => h x.2), if_pos h2]
theorem stPass_end {lt : α → α → Bool} {n s a : Nat} {d : Array α} (h : ¬ a + 2 * s ≤ n) (h2 : ¬ a + s < n) : d = stPass lt n s a d := by
  conv => rhs; rw [stPass, if_neg (fun x => h x.2), if_neg h2]
theorem stOuter_go {lt : α → α → Bool} {n s : Nat} {d : Array α} (h0 : 0 < s) (h : s < n) : stOuter lt n (2 * s) (stPass lt n s 0 d) = stOuter lt n s d := by
  conv => rhs; rw [stOuter, if_pos ⟨h0, h⟩]
theorem stOuter_end {lt : α → α → Bool} {n s : Nat} {d : Array α} (h : ¬ s < n) : d = stOuter lt n s d := by
  conv => rhs; rw [stOuter, if_neg (fun x => h x.2)]

set_option maxHeartbeats 4000000 in
set_option maxRecDepth 100000 in
theorem stable_cells (L : LaysGt.n15 P ρ) {enc : α → List Value} {k : Nat} {lt : α → α → Bool} {g : Nat} {lb : Array Value} {sf : Nat} {sb : Array Value} {blk off size : Nat} {w0 : World} (D : Data P enc k lt g lb sf sb blk off size w0)
    (d : Array α) (hs : d.size = size) (W : World) (hW : SWK enc k w0 blk off d W) :
    Calls P (ρ.f 15) #[.agg #[.func (.func g) #[] lb, .func (.func sf) #[] sb], .int .i64 size] W fun e w' => e = .returned (.tuple #[]) ∧ SWK enc k w0 blk off (stable lt d size) w' := by
  have mixed := L.mixed; have t0 := L.t0; have a0 := L.a0; have z0 := L.z0; have v0 := L.v0; have t3 := L.t3; have a3 := L.a3; have z3 := L.z3; have v3 := L.v3; have t4 := L.t4; have a4 := L.a4; have z4 := L.z4; have v4 := L.v4; have t26 := L.t26; have a26 := L.a26; have z26 := L.z26; have v26 := L.v26; have t38 := L.t38; have a38 := L.a38; have z38 := L.z38; have v38 := L.v38; have t42 := L.t42; have a42 := L.a42; have z42 := L.z42; have v42 := L.v42; have t47 := L.t47; have a47 := L.a47; have z47 := L.z47; have v47 := L.v47
  have u42 := run_underlying L.t42
  have hbs : blk ≠ W.heap.size := by have := hW.le; have := D.hblk; omega
  have hsz := D.hsz
  have e29 : ∀ args w, (callFunc (ρ.f 29) args).run P w = .ok (.enter (ρ.f 29) args) w := enters_of L.f29 (by kernel_rfl) rfl
  have e30 : ∀ args w, (callFunc (ρ.f 30) args).run P w = .ok (.enter (ρ.f 30) args) w := enters_of L.f30 (by kernel_rfl) rfl
  have LI : LaysGt.n29 P ρ := { L with }
  have LS : LaysGt.n30 P ρ := { L with }
  go_enter L.f15, BodyGt.n15_ntmps ρ
  go_wp2
  go_loopw [5, 6] (fun va vb wr => ∃ (a : Nat) (dk : Array α), va = .int .i64 a ∧ vb = .int .i64 ((a + 20 : Nat) : Int) ∧ a ≤ size ∧ dk.size = size ∧ stBlocks lt size a dk = stBlocks lt size 0 d ∧ SWK enc k w0 blk off dk wr ∧
    wr.cell? ⟨W.heap.size, 0, none⟩ = some (.func (.func g) #[] lb) ∧ wr.cell? ⟨W.heap.size, 1, none⟩ = some (.func (.func sf) #[] sb) ∧ Keep blk W wr) (fun va _ _ => size - (intOf va).toNat)
  case atStart => exact ⟨0, d, by go_num, by go_num, by omega, hs, rfl, hW.alloc _, by simp, by simp, Keep.alloc _ _ _⟩
  case round =>
    obtain ⟨a, dk, rfl, rfl, ha, hsk, he, hS, c0, c1, hK⟩ := hrel
    have AE : Hid (stBlocks lt size a dk = stBlocks lt size 0 d) := he
    have AK : Hid (Keep blk W wr) := hK
    have ASW : Hid (SWK enc k w0 blk off dk wr) := hS
    clear he hK hS
    by_cases hle : a + 20 ≤ size
    · have hc := ins_cells LI D dk hsk wr ASW.out a (a + 20) (by omega) hle
      have AE2 : Hid (stBlocks lt size (a + 20) (insertionSort lt dk a (a + 20)) = stBlocks lt size 0 d) := (stBlocks_go hle).trans AE.out
      clear AE
      go_wp2_with (go_at_fn (ρ.f 29); refine hc.mono ?_; rintro e w' ⟨rfl, hS', hK'⟩)
      have c0' := hK' _ _ _ (Ne.symm hbs) c0
      have c1' := hK' _ _ _ (Ne.symm hbs) c1
      go_roundw
      case rel => exact ⟨a + 20, _, by go_num, by go_num, hle, by simp [size_ins, hsk], AE2.out, hS', c0', c1', AK.out.trans hK'⟩
      case measure => simp [intOf]; omega
    · have hc := ins_cells LI D dk hsk wr ASW.out a size ha (Nat.le_refl _)
      have AE2 : Hid (stOuter lt size 20 (insertionSort lt dk a size) = stable lt d size) := by unfold Hid stable; rw [stBlocks_end hle, AE.out]
      have hsk2 : (insertionSort lt dk a size).size = size := by simp [size_ins, hsk]
      clear AE
      go_wp2_with (go_at_fn (ρ.f 29); refine hc.mono ?_; rintro e w' ⟨rfl, hS', hK'⟩)
      have c0' := hK' _ _ _ (Ne.symm hbs) c0
      have c1' := hK' _ _ _ (Ne.symm hbs) c1
      have BK : Hid (Keep blk W w') := AK.out.trans hK'
      have BS : Hid (SWK enc k w0 blk off (insertionSort lt dk a size) w') := hS'
      clear hc hS' hK' c0 c1 ASW AK
      generalize insertionSort lt dk a size = d1 at *
      go_loopw [4] (fun vs wr => ∃ (s : Nat) (dk : Array α), vs = .int .i64 s ∧ 0 < s ∧ s ≤ 2 * size + 20 ∧ dk.size = size ∧ stOuter lt size s dk = stable lt d size ∧ SWK enc k w0 blk off dk wr ∧
        wr.cell? ⟨W.heap.size, 0, none⟩ = some (.func (.func g) #[] lb) ∧ wr.cell? ⟨W.heap.size, 1, none⟩ = some (.func (.func sf) #[] sb) ∧ Keep blk W wr) (fun vs _ => size - (intOf vs).toNat)
      case atStart => exact ⟨20, d1, by go_num, by omega, by omega, hsk2, AE2.out, BS.out, c0', c1', BK.out⟩
      case round =>
        clear c0' c1' BK BS AE2 hsk2
        obtain ⟨s, dk, rfl, hs0, hsb, hsk, he, hS, c0, c1, hK⟩ := hrel
        have AE : Hid (stOuter lt size s dk = stable lt d size) := he
        have AK : Hid (Keep blk W wr) := hK
        have ASW : Hid (SWK enc k w0 blk off dk wr) := hS
        clear he hK hS
        by_cases hlt : s < size
        · have AE2 : Hid (stOuter lt size (2 * s) (stPass lt size s 0 dk) = stable lt d size) := (stOuter_go hs0 hlt).trans AE.out
          clear AE
          go_wp2
          go_loopw [5, 6] (fun va vb wr => ∃ (a : Nat) (d2 : Array α), va = .int .i64 a ∧ vb = .int .i64 ((a + 2 * s : Nat) : Int) ∧ a ≤ size ∧ d2.size = size ∧ stPass lt size s a d2 = stPass lt size s 0 dk ∧ SWK enc k w0 blk off d2 wr ∧
            wr.cell? ⟨W.heap.size, 0, none⟩ = some (.func (.func g) #[] lb) ∧ wr.cell? ⟨W.heap.size, 1, none⟩ = some (.func (.func sf) #[] sb) ∧ Keep blk W wr) (fun va _ _ => size - (intOf va).toNat)
          case atStart => exact ⟨0, dk, by go_num, by go_num, by omega, hsk, rfl, ASW.out, c0, c1, AK.out⟩
          case round =>
            clear c0 c1 AK ASW
            obtain ⟨a, d2, rfl, rfl, ha, hsk2, he, hS, c0, c1, hK⟩ := hrel
            have AP : Hid (stPass lt size s a d2 = stPass lt size s 0 dk) := he
            have AK : Hid (Keep blk W wr) := hK
            have ASW : Hid (SWK enc k w0 blk off d2 wr) := hS
            clear he hK hS
            by_cases hle : a + 2 * s ≤ size
            · have hc := symMerge_cells LS D (2 * s) d2 hsk2 wr ASW.out a (a + s) (a + 2 * s) (by omega) (by omega) (by omega) hle
              rw [show ((a + s : Nat) : Int) = (a : Int) + s by omega] at hc
              have AP2 : Hid (stPass lt size s (a + 2 * s) (sm lt (2 * s) d2 a (a + s) (a + 2 * s)) = stPass lt size s 0 dk) := (stPass_go hs0 hle).trans AP.out
              clear AP
              go_wp2_with (go_at_fn (ρ.f 30); refine hc.mono ?_; rintro e w' ⟨rfl, hS', hK'⟩)
              have c0' := hK' _ _ _ (Ne.symm hbs) c0
              have c1' := hK' _ _ _ (Ne.symm hbs) c1
              go_roundw
              case rel => exact ⟨a + 2 * s, _, by go_num, by go_num, hle, by simp [hsk2], AP2.out, hS', c0', c1', AK.out.trans hK'⟩
              case measure => simp [intOf]; omega
            · by_cases hm : a + s < size
              · have hc := symMerge_cells LS D (size - a) d2 hsk2 wr ASW.out a (a + s) size (by omega) (by omega) hm (Nat.le_refl _)
                rw [show ((a + s : Nat) : Int) = (a : Int) + s by omega] at hc
                have hmi : (a : Int) + s < size := by omega
                have AP2 : Hid (stOuter lt size (2 * s) (sm lt (size - a) d2 a (a + s) size) = stable lt d size) := by unfold Hid; rw [stPass_last hle hm, AP.out]; exact AE2.out
                clear AP
                go_wp2_with (go_at_fn (ρ.f 30); refine hc.mono ?_; rintro e w' ⟨rfl, hS', hK'⟩)
                have c0' := hK' _ _ _ (Ne.symm hbs) c0
                have c1' := hK' _ _ _ (Ne.symm hbs) c1
                go_roundw
                case rel => exact ⟨2 * s, _, by go_num, by omega, by omega, by simp [hsk2], AP2.out, hS', c0', c1', AK.out.trans hK'⟩
                case measure => simp [intOf]; omega
              · have hmi : ¬ (a : Int) + s < size := by omega
                have AP2 : Hid (stOuter lt size (2 * s) d2 = stable lt d size) := (congrArg (stOuter lt size (2 * s)) ((stPass_end hle hm).trans AP.out)).trans AE2.out
                clear AP
                go_wp2
                go_roundw
                case rel => exact ⟨2 * s, d2, by go_num, by omega, by omega, hsk2, AP2.out, ASW.out, c0, c1, AK.out⟩
                case measure => simp [intOf]; omega
        · have AE2 : Hid (dk = stable lt d size) := (stOuter_end hlt).trans AE.out
          clear AE
          go_wp2
          go_end0
          exact ⟨rfl, AE2.out ▸ ASW.out⟩

theorem sliceStable_cells (L : LaysGt.n8 P ρ) (t e : TypeId) (i ie : TypeInfo) (hi : P.info? t = some i) (hd : i.desc = .slice e) (hpk : P.packed t = false) (hie : P.info? e = some ie) (ke : Nat) (hke : ∀ w, (Extern.Rtype.kind e).run P w = .ok ke w)
    (enc : α → List Value) (k : Nat) (hk : ∀ x, (enc x).length = k) (hs1 : ie.size = k) (hagg : ∀ w, (isAgg e).run P w = .ok true w) (h1 : ∀ x, ∀ v ∈ enc x, v.oneCell' = true) (lt : α → α → Bool) (g : Nat) (lb : Array Value)
    (eg : ∀ args w, (callFunc g args).run P w = .ok (.enter g args) w) (blk off c : Nat) (d : Array α) (h2 : 2 ≤ d.size) (hsz : d.size < 1152921504606846976)
    (f : Nat) (hf : P.funcs.findIdx? (·.name == "internal/reflectlite" ++ ".Swapper$" ++ toString (swapperK d.size ie ke)) = some f)
    (gS : Bool) (hx : ∀ args W, (callFunc f args).run P W = ((Extern.ReflectliteSwapper.swap gS args).run P W).andThen fun v w' => .ok (.value v) w')
    (w : World) (hless : LessReadsK P g lb enc k lt blk off d.size w) (hH : HoldsK enc k w blk off d) (hblk : blk < w.heap.size) :
    Calls P (ρ.f 8) #[.iface t (.slice (some ⟨blk, off, none⟩) d.size c), .func (.func g) #[] lb] w fun e w' => e = .returned (.tuple #[]) ∧ SWK enc k w blk off (stable lt d d.size) w' := by
  refine Any.sort_SliceStable_of_stable L t e i ie hi hd hpk hie ke hke _ d.size c (by omega) f hf (.func g) #[] lb w _ ?_
  have hB : sliceBound P e ie ke (some ⟨blk, off, none⟩) d.size c = #[.slice (some ⟨blk, off, none⟩) d.size c, typeHandle P e] := by
    unfold sliceBound; rw [if_neg (swapperK_gt _ _ _ h2)]
  rw [hB]
  have D : Data P enc k lt g lb f #[.slice (some ⟨blk, off, none⟩) d.size c, typeHandle P e] blk off d.size w :=
    ⟨hk, eg, hless, swapSwapsK_of_literal gS f hx e ie hie enc k hk hs1 hagg h1 blk off d.size c, ⟨d, hH, rfl⟩, hblk, hsz⟩
  exact stable_cells { L with } D d rfl _ (((SWK.start hH).alloc _).alloc _)
end Go.Proofs.YtanfohlpkppeiaaGreat.Stable
end
section
namespace Go.Proofs.YtanfohlpkppeiaaGreat.Print
open Go.RowKit Go.Proofs.YtanfohlpkppeiaaGreatV.PrintWords Go.Proofs.YtanfohlpkppeiaaGreatV.PrintLast Go.Proofs.YtanfohlpkppeiaaGreatV.PrintMore
attribute [local go_sem] max2_int min2_int max_two min_two max_three min_three max_four min_four
set_option linter.unusedVariables false
set_option linter.unusedSimpArgs false
set_option maxHeartbeats 8000000
set_option maxRecDepth 100000
section
open Go.Sort Go.Lib
theorem heap_sw {α : Type} [Inhabited α] (enc : α → List Value) (k : Nat) (w : World) (blk off m : Nat) (dk : Array α) (os : Array Obj) (b : Nat) (hb : b ≠ blk) (hl : b < w.heap.size) : (sortWorldK enc k w blk off m dk os).heap[b]? = w.heap[b]? := by
 show ((putRowK enc k (Sort.ahead w m) blk off dk).heap ++ os)[b]? = _
 have hs : (putRowK enc k (Sort.ahead w m) blk off dk).heap.size = w.heap.size := by unfold putRowK; simp
 rw [Array.getElem?_append_left (by rw [hs]; exact hl)]
 show (w.heap.modify blk _)[b]? = _
 rw [Array.getElem?_modify, if_neg (Ne.symm hb)]
theorem heap_sw_self {α : Type} [Inhabited α] (enc : α → List Value) (k : Nat) (w : World) (blk off m : Nat) (dk : Array α) (os : Array Obj) {cur : Array Value} {e : TypeId} {fr : Nat × Nat} (h : w.heap[blk]? = some (.cells cur e fr)) :
  (sortWorldK enc k w blk off m dk os).heap[blk]? = some (.cells (putCells id off (flatK enc k dk) cur) e fr) := by
 have hl : blk < w.heap.size := by
  by_cases hlt : blk < w.heap.size
  ·
   exact hlt
  rw [Array.getElem?_eq_none (by omega)] at h; cases h
 show ((putRowK enc k (Sort.ahead w m) blk off dk).heap ++ os)[blk]? = _
 have hs : (putRowK enc k (Sort.ahead w m) blk off dk).heap.size = w.heap.size := by unfold putRowK; simp
 rw [Array.getElem?_append_left (by rw [hs]; exact hl)]
 show (w.heap.modify blk _)[blk]? = _
 rw [Array.getElem?_modify, if_pos rfl, h]
 rfl
theorem size_sw {α : Type} [Inhabited α] (enc : α → List Value) (k : Nat) (w : World) (blk off m : Nat) (dk : Array α) (os : Array Obj) : w.heap.size ≤ (sortWorldK enc k w blk off m dk os).heap.size := by
 show _ ≤ ((putRowK enc k (Sort.ahead w m) blk off dk).heap ++ os).size
 have hs : (putRowK enc k (Sort.ahead w m) blk off dk).heap.size = w.heap.size := by unfold putRowK; simp
 rw [Array.size_append, hs]; omega
theorem take_putCells (F cur : Array Value) (h : F.size ≤ cur.size) : (putCells id 0 F cur).toList.take F.size = F.toList := by
 apply List.ext_getElem
 ·
  simp [putCells]; omega
 intro t h1 h2
 simp only [List.length_take, Array.length_toList] at h1 h2
 simp [putCells, h2]
theorem chunk_flatK {α : Type} [Inhabited α] (enc : α → List Value) (k : Nat) (hk : ∀ x, (enc x).length = k) (d : Array α) (t : Nat) (ht : t < d.size) : ((flatK enc k d).toList.drop (t * k)).take k = enc d[t]! := by
 have b : t * k + k ≤ d.size * k := by
  have := Nat.mul_le_mul_right k (show t + 1 ≤ d.size from ht); rwa [Nat.add_mul, Nat.one_mul] at this
 apply List.ext_getElem
 ·
  simp [hk]; omega
 intro i h1 h2
 rw [hk] at h2
 have e1 : (t * k + i) / k = t := by rw [Nat.mul_comm, Nat.mul_add_div (by omega), Nat.div_eq_of_lt h2]; rfl
 have e2 : (t * k + i) % k = i := by rw [Nat.mul_comm, Nat.mul_add_mod, Nat.mod_eq_of_lt h2]
 have := get_flatK enc k d (t * k + i) (by omega)
 rw [getElem!_pos _ _ (by simp; omega), e1, e2] at this
 simp only [List.getElem_take, List.getElem_drop, Array.getElem_toList]
 rw [this, getElem!_pos _ _ (by rw [hk]; exact h2)]
/-- A row of rows, its cells by name; and what makes it a row again, its elements in another order. -/
theorem S_cells {α : Type} {d : Kd α} {e g n cap base : Nat} {w : World} {ok : Nat → Prop} {xs : List α} (h : Kd.S d e w base ok (.slice (some ⟨g, 0, none⟩) n cap) xs) :
  ∃ (inner : List Value) (cur : Array Value) (okj : Nat → Nat → Prop), n = xs.length ∧ inner.length = xs.length * d.sz ∧ w.heap[g]? = some (.cells cur e (0, 0)) ∧ xs.length * d.sz ≤ cur.size ∧ cur.toList.take (xs.length * d.sz) = inner ∧ base ≤ g ∧
   (∀ i j k, okj i k → okj j k → i = j) ∧ (∀ j k, okj j k → ok k ∧ k ≠ g) ∧ (∀ j x, xs[j]? = some x → d.M w base (okj j) x ((inner.drop (j * d.sz)).take d.sz)) ∧
   ∀ (w1 : World) (cur1 : Array Value) (inner1 : List Value) (ys : List α) (okj1 : Nat → Nat → Prop), ys.length = xs.length → w1.heap[g]? = some (.cells cur1 e (0, 0)) → cur1.size = cur.size → cur1.toList.take (xs.length * d.sz) = inner1 → (∀ i j k, okj1 i k → okj1 j k → i = j) →
    (∀ j k, okj1 j k → ok k ∧ k ≠ g) → (∀ j y, ys[j]? = some y → d.M w1 base (okj1 j) y ((inner1.drop (j * d.sz)).take d.sz)) → Kd.S d e w1 base ok (.slice (some ⟨g, 0, none⟩) n cap) ys := by
 have hn := (Kd.S_reads' h).1
 obtain ⟨f, h0, inner, ho, hr⟩ := h
 rw [List.length_zipIdx] at ho
 obtain ⟨hl, hc⟩ := ho
 have hl' : inner.length = xs.length * d.sz := hl
 rcases hc with ⟨hc, -⟩ | ⟨g', cap', cur, hv, hg, hh, hle, hm, hsz, ht⟩
 ·
  cases hc
 injection hv with ha h2 h3
 injection ha with ha
 injection ha with ha _ _
 subst ha h3
 have hM : ∀ j x, xs[j]? = some x → d.M w base (fun k => (ok k ∧ k ≠ g) ∧ f k = j) x ((inner.drop (j * d.sz)).take d.sz) := fun j x hx => by
  have := hr.2 j (x, j) (Kd.zip_at hx)
  exact d.M_mono (fun k hk => ⟨⟨hk.1.1, fun e_ => hk.1.2 (by rw [e_]; rfl)⟩, hk.2⟩) this
 refine ⟨inner, cur, fun j k => (ok k ∧ k ≠ g) ∧ f k = j, hn, hl', hh, ?_, ht, hg, fun i j k a b => a.2.symm.trans b.2, fun j k a => a.1, hM, ?_⟩
 ·
  have : cur.size = cap * d.sz := hsz
  rw [this]; exact Nat.mul_le_mul_right _ (by omega)
 intro w1 cur1 inner1 ys okj1 hys hh1 hs1 ht1 hap hok hM1
 have hz : cur.size = cap * d.sz := hsz
 have hl1 : inner1.length = ys.length * d.sz := by
  have e1 : cur1.toList.length = cap * d.sz := by rw [← hz, ← hs1]; simp
  rw [← ht1, List.length_take, e1, hys]
  exact Nat.min_eq_left (Nat.mul_le_mul_right _ (by omega))
 obtain ⟨f1, hr1⟩ := Kd.reps_tag (d := d) (w := w1) (base := base) (ok := fun k => ok k ∧ some k ≠ (Value.slice (some ⟨g, 0, none⟩) n cap).ownBlock) okj1 hap (fun j k hk => ⟨(hok j k hk).1, fun e_ => (hok j k hk).2 (by injection e_)⟩) hl1 hM1
 refine ⟨f1, h0, inner1, ⟨?_, .inr ⟨g, cap, cur1, by rw [List.length_zipIdx, hys]; first | rfl | (subst hn; rfl), hg, hh1, by rw [List.length_zipIdx, hys]; omega, hm, by rw [hs1]; exact hsz, by rw [List.length_zipIdx, hys]; exact ht1⟩⟩, hr1⟩
 rw [List.length_zipIdx]; exact hl1
end
section
open Go.Sort Go.Lib
open Classical in
noncomputable def impl_byLabels.lt (x y : S29) : Bool := decide (∃ k, impl_SetLess.f k x.f0 y.f0 = some true)
noncomputable def impl_byLabels.at_ (l : List S29) (j : Nat) : S29 := l.getD (if j < l.length then j else 0) z29
noncomputable def impl_byLabels.ltn (l : List S29) (i j : Nat) : Bool := impl_byLabels.lt (impl_byLabels.at_ l i) (impl_byLabels.at_ l j)
noncomputable def impl_byLabels.out (l : List S29) : List S29 := (Stable.stable (impl_byLabels.ltn l) (Array.range l.length) l.length).toList.map (impl_byLabels.at_ l)
open Classical in
noncomputable def impl_byLabels.f (k : Nat) (l0 : List S29) : Option (List S29) := if (∀ x ∈ l0, ∀ y ∈ l0, (impl_SetLess.f k x.f0 y.f0).isSome = true) ∧ l0.length < 1152921504606846976 ∧ SWO (impl_byLabels.ltn l0) then some (impl_byLabels.out l0) else none
theorem impl_byLabels.more (a b : List S99) (v : Bool) (k : Nat) (h : impl_SetLess.f k a b = some v) : ∀ m, impl_SetLess.f (k + m) a b = some v
 | 0 => h
 | m + 1 => impl_SetLess.mono _ _ _ _ (impl_byLabels.more a b v k h m)
open Classical in
theorem impl_byLabels.lt_eq {x y : S29} {v : Bool} {k : Nat} (h : impl_SetLess.f k x.f0 y.f0 = some v) : impl_byLabels.lt x y = v := by
 unfold impl_byLabels.lt
 cases v with
 | true => exact decide_eq_true ⟨k, h⟩
 | false =>
  refine decide_eq_false ?_
  rintro ⟨k', h'⟩
  have a := impl_byLabels.more _ _ _ _ h k'
  have b := impl_byLabels.more _ _ _ _ h' k
  rw [Nat.add_comm k' k, a] at b
  cases b
theorem impl_byLabels.lit (k B g n c i j : Nat) (W : World) (d : Option Addr) (l : Nat) (a : List S99) (m : Option Addr) (o : Nat) (b : List S99) (r : Bool) (hB : W.cell? ⟨B, 0, none⟩ = some (.slice (some ⟨g, 0, none⟩) n c)) (hi : i < n) (hj : j < n) (hn : n < 1152921504606846976)
  (ci : W.cell? ⟨g, i * 4, none⟩ = some (.slice d a.length l)) (cj : W.cell? ⟨g, j * 4, none⟩ = some (.slice m b.length o)) (p : Kd.C k99 W d a.length a) (t : a.length ≤ l) (s : Kd.C k99 W m b.length b) (u : b.length ≤ o) (h : impl_SetLess.f k a b = some r) :
  Calls Tryz.prog 111 #[.int .i64 i, .int .i64 j, .pointer (some ⟨B, 0, none⟩)] W fun e w' => e = .returned (.bool r) ∧ ∃ q, w' = W.drewN q := by
 have hii : (i : Int) < n := by omega
 have hjj : (j : Int) < n := by omega
 have R0 := Aside0.mk p
 have R1 := Aside0.mk s
 have HH := Aside0.mk h
 clear p s h
 go_enter Tryz.func111, Tryz.ntmps111
 go_wp2
 go_quiet (first | (go_at_call 33; exact Calls.quiet_of ((impl_SetLess.calls k d l a m o b r _ (Kd.C_drewN R0.out _) t (Kd.C_drewN R1.out _) u HH.out).mono fun _ _ ⟨he, hd⟩ => ⟨he, hd.out⟩)))
 go_wp2
 go_ret
 exact ⟨rfl, nq, rfl⟩
noncomputable def impl_byLabels.sT : TypeInfo := (Tryz.prog.info? 40).get (by kernel_rfl)
noncomputable def impl_byLabels.sE : TypeInfo := (Tryz.prog.info? 29).get (by kernel_rfl)
theorem impl_byLabels.sK (n : Nat) (h2 : 2 ≤ n) : swapperK n impl_byLabels.sE 25 = 9 := by
 have a : impl_byLabels.sE.hasPointers = true := by kernel_rfl
 have b : impl_byLabels.sE.bytes = 56 := by kernel_rfl
 have c : (n == 0) = false := by simp; omega
 have d : (n == 1) = false := by simp; omega
 simp [swapperK, a, b, c, d]
theorem impl_byLabels.tiny (a : Option Addr) (n c : Nat) (hn : n ≤ 1) (la : Array Value) (w : World) :
  Calls Tryz.prog 110 #[.iface 40 (.slice a n c), .func (.func 111) #[] la] w fun e w' => e = .returned (.tuple #[]) ∧ ∃ os, w' = grow w os := by
 have sw : ∃ f, Tryz.prog.funcs.findIdx? (·.name == "internal/reflectlite" ++ ".Swapper$" ++ toString (swapperK n impl_byLabels.sE 25)) = some f := by
  rcases (show n = 0 ∨ n = 1 by omega) with rfl | rfl
  ·
   exact ⟨_, (by kernel_rfl : Tryz.prog.funcs.findIdx? (·.name == "internal/reflectlite" ++ ".Swapper$" ++ toString (swapperK 0 impl_byLabels.sE 25)) = some (145 - 8))⟩
  exact ⟨_, (by kernel_rfl : Tryz.prog.funcs.findIdx? (·.name == "internal/reflectlite" ++ ".Swapper$" ++ toString (swapperK 1 impl_byLabels.sE 25)) = some (145 - 7))⟩
 obtain ⟨f, hf⟩ := sw
 exact Any.sort_SliceStable_tiny Tryz.laysGt8 40 29 impl_byLabels.sT impl_byLabels.sE (by kernel_rfl) (by kernel_rfl) (by kernel_rfl) (by kernel_rfl) 25 (fun _ => by kernel_rfl) a n c hn f hf (.func 111) #[] la w
theorem impl_byLabels.out_tiny (l : List S29) (h : l.length ≤ 1) : impl_byLabels.out l = l := by
 have e : ∀ (d : Array Nat), Stable.stable (impl_byLabels.ltn l) d l.length = d := fun d => by
  unfold Stable.stable
  rw [Stable.stBlocks, if_neg (by omega), Stable.stOuter, if_neg (by omega)]
  unfold insertionSort
  rw [insOuter, if_neg (by omega)]
 unfold impl_byLabels.out
 rw [e]
 match l, h with
 | [], _ => rfl
 | [x], _ => rfl
/-- What the sort leaves: the row in its order, all else as it was. -/
theorem impl_byLabels.sorts (k : Nat) (P0_ : Nat → Prop) (g c : Nat) (d : List S29) (base : Nat) (w : World) (ho : Kd.S k29 29 w base P0_ (.slice (some ⟨g, 0, none⟩) d.length c) d) (h2 : 2 ≤ d.length)
  (hq : ∀ x ∈ d, ∀ y ∈ d, (impl_SetLess.f k x.f0 y.f0).isSome = true) (hsz : d.length < 1152921504606846976) (hO : SWO (impl_byLabels.ltn d)) :
  Calls Tryz.prog 110 #[.iface 40 (.slice (some ⟨g, 0, none⟩) d.length c), .func (.func 111) #[] #[.pointer (some ⟨w.heap.size, 0, none⟩)]] (w.alloc (.cells #[.slice (some ⟨g, 0, none⟩) d.length c] 40)) fun e w' =>
   e = .returned (.tuple #[]) ∧ w'.cell? ⟨w.heap.size, 0, none⟩ = some (.slice (some ⟨g, 0, none⟩) d.length c) ∧ Kd.S k29 29 w' base P0_ (.slice (some ⟨g, 0, none⟩) d.length c) (impl_byLabels.out d) ∧
   (∀ b, b ≠ g → b < w.heap.size → w'.heap[b]? = w.heap[b]?) ∧ w.heap.size ≤ w'.heap.size ∧ w'.os = w.os ∧ w'.tape = w.tape ∧ w'.output = w.output ∧ base ≤ g ∧ P0_ g := by
 have hP0 : P0_ g := (Kd.S_R ho).1 g rfl
 obtain ⟨inner, cur, okj, -, hil, hh, hcs, hct, hg, hap, hok, hM, hback⟩ := S_cells ho
 have hgl : g < w.heap.size := blk_lt hh
 change inner.length = d.length * 4 at hil
 change d.length * 4 ≤ cur.size at hcs
 change cur.toList.take (d.length * 4) = inner at hct
 let ej : Nat → Nat := fun j => if j < d.length then j else 0
 have hej : ∀ j, ej j < d.length := fun j => by show (if j < d.length then j else 0) < _; split <;> omega
 have hel : ∀ j, d[ej j]? = some (impl_byLabels.at_ d j) := fun j => by
  unfold impl_byLabels.at_
  rw [List.getElem?_eq_getElem (hej j), List.getD_eq_getElem?_getD, List.getElem?_eq_getElem (hej j)]; rfl
 have hmem : ∀ j, impl_byLabels.at_ d j ∈ d := fun j => List.mem_of_getElem? (hel j)
 let enc : Nat → List Value := fun j => (inner.drop (ej j * 4)).take 4
 have hk : ∀ j, (enc j).length = 4 := fun j => by
  show ((inner.drop (ej j * 4)).take 4).length = 4
  have := hej j
  rw [List.length_take, List.length_drop, hil]; omega
 have hMe : ∀ j, k29.M w base (okj (ej j)) (impl_byLabels.at_ d j) (enc j) := fun j => hM _ _ (hel j)
 have hone : ∀ j, ∀ v ∈ enc j, v.oneCell' = true := fun j => k29.K_one (k29.K_of_M (hMe j))
 have hd : (Array.range d.length).size = d.length := by simp
 have hcell : ∀ t, t < d.length * 4 → w.cell? ⟨g, t, none⟩ = some inner[t]! := fun t ht => by
  rw [blk_cell hh, getElem!_pos inner t (by omega), Array.getElem?_eq_getElem (by omega)]
  have := List.getElem_take (xs := cur.toList) (j := d.length * 4) (i := t) (h := by rw [hct, hil]; exact ht)
  simp only [hct] at this
  rw [this]; rfl
 have hH : HoldsK enc 4 w g 0 (Array.range d.length) := by
  intro t ht
  rw [size_flatK, hd] at ht
  refine ⟨?_, by rw [Nat.zero_add]; exact blk_frozen hh t⟩
  rw [Nat.zero_add, hcell t ht]
  show some _ = some (flatK enc 4 (Array.range d.length))[t]!
  rw [get_flatK _ _ _ _ (by rw [hd]; exact ht)]
  have hq4 : t / 4 < d.length := by omega
  rw [show (Array.range d.length)[t / 4]! = t / 4 by simp [hq4]]
  show _ = some ((inner.drop (ej (t / 4) * 4)).take 4)[t % 4]!
  rw [show ej (t / 4) = t / 4 from if_pos hq4, getElem!_pos _ (t % 4) (by simp [hil]; omega), List.getElem_take, List.getElem_drop, getElem!_pos inner t (by omega)]
  congr 2; omega
 have hwb : ∀ o, w.alloc o = grow w #[o] := fun o => alloc_eq_grow w o
 have hH1 : HoldsK enc 4 (w.alloc (.cells #[.slice (some ⟨g, 0, none⟩) d.length c] 40)) g 0 (Array.range d.length) := by rw [hwb]; exact holdsK_grow enc 4 w _ g 0 _ hgl hH
 have hg1 : g < (w.alloc (.cells #[.slice (some ⟨g, 0, none⟩) d.length c] 40)).heap.size := by rw [hwb, size_grow]; omega
 have hbs : w.heap.size < (w.alloc (.cells #[.slice (some ⟨g, 0, none⟩) d.length c] 40)).heap.size := by rw [hwb, size_grow]; simp
 have q : (w.alloc (.cells #[.slice (some ⟨g, 0, none⟩) d.length c] 40)).cell? ⟨w.heap.size, 0, none⟩ = some (.slice (some ⟨g, 0, none⟩) d.length c) := by simp
 have hheap : ∀ m dk os b, b ≠ g → b < w.heap.size → (sortWorldK enc 4 (w.alloc (.cells #[.slice (some ⟨g, 0, none⟩) d.length c] 40)) g 0 m dk os).heap[b]? = w.heap[b]? := fun m dk os b hb hl => by
  rw [heap_sw enc 4 _ g 0 m dk os b hb (by omega), Below.heap_alloc w _ b hl]
 have hboxw : ∀ m dk os, (sortWorldK enc 4 (w.alloc (.cells #[.slice (some ⟨g, 0, none⟩) d.length c] 40)) g 0 m dk os).cell? ⟨w.heap.size, 0, none⟩ = some (.slice (some ⟨g, 0, none⟩) d.length c) := fun m dk os => by
  rw [World.cell?_of_block (heap_sw enc 4 _ g 0 m dk os w.heap.size (by omega) hbs)]; exact q
 have hless : LessReadsK Tryz.prog 111 #[.pointer (some ⟨w.heap.size, 0, none⟩)] enc 4 (impl_byLabels.ltn d) g 0 (Array.range d.length).size (w.alloc (.cells #[.slice (some ⟨g, 0, none⟩) d.length c] 40)) := by
  intro m os dk hs i j hi hj
  have hHw : HoldsK enc 4 (sortWorldK enc 4 (w.alloc (.cells #[.slice (some ⟨g, 0, none⟩) d.length c] 40)) g 0 m dk os) g 0 dk :=
   (Stable.SWK.on (Stable.SWK.start hH1) hg1 m dk os hs).holds hg1 hH1 hs
  have row : ∀ t : Nat, ∃ n p, (sortWorldK enc 4 (w.alloc (.cells #[.slice (some ⟨g, 0, none⟩) d.length c] 40)) g 0 m dk os).cell? ⟨g, t * 4, none⟩ = some (.slice n (impl_byLabels.at_ d dk[t]!).f0.length p) ∧ (impl_byLabels.at_ d dk[t]!).f0.length ≤ p ∧
    Kd.C k99 (sortWorldK enc 4 (w.alloc (.cells #[.slice (some ⟨g, 0, none⟩) d.length c] 40)) g 0 m dk os) n (impl_byLabels.at_ d dk[t]!).f0.length (impl_byLabels.at_ d dk[t]!).f0 ∨ dk.size ≤ t := fun t => by
   by_cases ht : t < dk.size
   ·
    obtain ⟨z, hv, hR⟩ := k29_openM (hMe dk[t]!)
    have hR2 := Kd.R_step hR (fun b hb hl => hheap m dk os b (hok _ b hb).2 hl)
    obtain ⟨n, p, rfl, r, hC⟩ := Kd.R_reads hR2
    have := (hHw.cell ht (show 0 < 4 by decide)).1
    rw [hv] at this
    refine ⟨n, p, Or.inl ⟨by simpa using this, r, hC⟩⟩
   exact ⟨none, 0, Or.inr (by omega)⟩
  rw [hd] at hi hj hs
  obtain ⟨n, p, ⟨ci, li, Ci⟩ | hx⟩ := row i
  ·
   obtain ⟨s, u, ⟨cj, lj, Cj⟩ | hx⟩ := row j
   ·
    obtain ⟨v, hv⟩ := Option.isSome_iff_exists.1 (hq _ (hmem dk[i]!) _ (hmem dk[j]!))
    have hlt : impl_byLabels.ltn d dk[i]! dk[j]! = v := impl_byLabels.lt_eq hv
    rw [hlt]
    exact impl_byLabels.lit k w.heap.size g d.length c i j _ n p _ s u _ v (hboxw m dk os) hi hj hsz ci cj Ci li Cj lj hv
   omega
  omega
 have hS := Stable.sliceStable_cells Tryz.laysGt8 40 29 impl_byLabels.sT impl_byLabels.sE (by kernel_rfl) (by kernel_rfl) (by kernel_rfl) (by kernel_rfl) 25 (fun _ => by kernel_rfl) enc 4 hk (by kernel_rfl) (fun _ => by kernel_rfl) hone (impl_byLabels.ltn d) 111 _
  (enters_of Tryz.func111 (by kernel_rfl) rfl) g 0 c (Array.range d.length) (by rw [hd]; exact h2) (by rw [hd]; exact hsz) 145 (by rw [hd, impl_byLabels.sK _ h2]; kernel_rfl) false
  (fun args W => run_callFunc_extern Tryz.func145 (by kernel_rfl) (by kernel_rfl) (by kernel_rfl) (e := Extern.ReflectliteSwapper.swap false) (by kernel_rfl) args W) _ hless hH1 hg1
 rw [hd] at hS
 refine hS.mono ?_
 rintro e w' ⟨rfl, m, os, rfl⟩
 obtain ⟨s1, s2, -⟩ := Stable.stable_spec hO (Array.range d.length)
 rw [hd] at s1 s2
 generalize hdk : Stable.stable (impl_byLabels.ltn d) (Array.range d.length) d.length = dk at *
 have hlt : ∀ j ∈ dk.toList, j < d.length := fun j hj => by
  have := (s2.mem hO j).1 hj; simpa using this
 have hnd : dk.toList.Nodup := by
  rw [List.nodup_iff_count]
  intro x
  have e : ∀ l : List Nat, (l.filter (Stable.eqv (impl_byLabels.ltn d) x)).count x = l.count x := fun l => List.count_filter (by simp [Stable.eqv, hO.irrefl])
  rw [← e, s2 x, e]
  have : ((Array.range d.length).toList).Nodup := by simpa using List.nodup_range
  exact List.nodup_iff_count.1 this x
 have hgt : ∀ t, t < d.length → dk[t]! ∈ dk.toList := fun t ht => by
  rw [getElem!_pos dk t (by omega)]; exact Array.getElem_mem_toList _
 have hhw : (w.alloc (.cells #[.slice (some ⟨g, 0, none⟩) d.length c] 40)).heap[g]? = some (.cells cur 29 (0, 0)) := by rw [Below.heap_alloc w _ g hgl]; exact hh
 have hw' := heap_sw_self enc 4 (w.alloc (.cells #[.slice (some ⟨g, 0, none⟩) d.length c] 40)) g 0 m dk os hhw
 refine ⟨rfl, hboxw m dk os, ?_, fun b hb hl => hheap m dk os b hb hl, Nat.le_trans (by omega) (size_sw enc 4 (w.alloc (.cells #[.slice (some ⟨g, 0, none⟩) d.length c] 40)) g 0 m dk os), rfl, rfl, rfl, hg, hP0⟩
 have hfs : (flatK enc 4 dk).size = d.length * 4 := by rw [size_flatK, s1]
 refine hback _ _ (flatK enc 4 dk).toList _ (fun t k_ => t < d.length ∧ okj (ej dk[t]!) k_) ?_ hw' (by simp [putCells]) ?_ ?_ ?_ ?_
 ·
  unfold impl_byLabels.out; rw [hdk]; simp [s1]
 ·
  show (putCells id 0 (flatK enc 4 dk) cur).toList.take (d.length * 4) = _
  rw [← hfs]; exact take_putCells _ _ (by omega)
 ·
  rintro i j k_ ⟨hi, a⟩ ⟨hj, b⟩
  have e := hap _ _ _ a b
  have ei : ej dk[i]! = dk[i]! := if_pos (hlt _ (hgt i hi))
  have ejj : ej dk[j]! = dk[j]! := if_pos (hlt _ (hgt j hj))
  rw [ei, ejj, getElem!_pos dk i (by omega), getElem!_pos dk j (by omega)] at e
  exact (List.getElem_inj (h₀ := by simp; omega) (h₁ := by simp; omega) hnd).1 (by simpa using e)
 ·
  rintro j k_ ⟨-, a⟩; exact hok _ _ a
 intro t y hy
 unfold impl_byLabels.out at hy
 rw [hdk, List.getElem?_map] at hy
 obtain ⟨x, hx, rfl⟩ := Option.map_eq_some_iff.1 hy
 have ht : t < d.length := by
  have := (List.getElem?_eq_some_iff.1 hx).1; simp at this; omega
 have hx' : x = dk[t]! := by
  rw [getElem!_pos dk t (by omega)]
  have := (List.getElem?_eq_some_iff.1 hx).2; rw [← this]; simp
 subst hx'
 show k29.M _ base _ _ (((flatK enc 4 dk).toList.drop (t * 4)).take 4)
 rw [chunk_flatK enc 4 hk dk t (by omega)]
 exact k29.M_mono (fun k_ hk_ => ⟨ht, hk_⟩) (Kd.M_step (hMe dk[t]!) (fun b hb hl => hheap m dk os b (hok _ b hb).2 hl))
set_option maxHeartbeats 4000000 in
theorem impl_byLabels.calls (k : Nat) (P0_ : Nat → Prop) (v : Value) (d : List S29) (r : List S29) (l w : World) (hB : Below l.heap.size l w) (j : Kd.S k29 29 w l.heap.size P0_ v d) (h : impl_byLabels.f k d = some r) :
  Calls Tryz.prog 85 #[v] w fun e w' => ∃ v_, e = .returned v_ ∧ Kd.S k29 29 w' l.heap.size P0_ v_ r ∧ Below l.heap.size l w' ∧ Kept w w' (fun k_ => P0_ k_) := by
 unfold impl_byLabels.f at h
 split at h
 rotate_left
 ·
  cases h
 rename_i hc
 injection h with h
 subst h
 obtain ⟨hq, hsz, hO⟩ := hc
 obtain ⟨m, c, rfl⟩ := Kd.S_slice j
 have post : ∀ w' : World, Kd.S k29 29 w' l.heap.size P0_ (.slice m d.length c) (impl_byLabels.out d) → (∀ b, ¬ (l.heap.size ≤ b ∧ P0_ b) → b < w.heap.size → w'.heap[b]? = w.heap[b]?) → w.heap.size ≤ w'.heap.size → w'.os = w.os → w'.tape = w.tape → w'.output = w.output →
   Kd.S k29 29 w' l.heap.size P0_ (.slice m d.length c) (impl_byLabels.out d) ∧ Below l.heap.size l w' ∧ Kept w w' (fun k_ => P0_ k_) := fun w' a b s o t u =>
  ⟨a, ⟨o.trans hB.os, t.trans hB.tape, u.trans hB.output, Nat.le_trans hB.size s, fun k_ hk_ => (b k_ (fun e_ => by omega) (Nat.lt_of_lt_of_le hk_ hB.size)).trans (hB.block k_ hk_)⟩, s, fun i hi hn => b i (fun e_ => hn e_.2) hi⟩
 by_cases h2 : 2 ≤ d.length
 ·
  obtain ⟨g, cap, hv, -, -, -⟩ := Kd.S_form j (by omega)
  injection hv with n _ p
  subst n p
  have hS := impl_byLabels.sorts k P0_ g c d l.heap.size w j h2 hq hsz hO
  have HP := Aside0.mk post
  clear post j hB hq hO
  go_enter Tryz.func85, Tryz.ntmps85
  go_wp2_with (go_at_call 110; refine hS.mono ?_; rintro e w' ⟨rfl, hbx, hp⟩)
  go_ret
  obtain ⟨a, b, s, o, t, u, hg, hP⟩ := hp
  exact ⟨_, rfl, HP.out _ a (fun k_ hk_ hl_ => b k_ (fun e_ => hk_ (e_ ▸ ⟨hg, hP⟩)) hl_) s o t u⟩
 have hS := impl_byLabels.tiny m d.length c (by omega) #[.pointer (some ⟨w.heap.size, 0, none⟩)] (w.alloc (.cells #[.slice m d.length c] 40))
 have hb : ∀ os b, b < w.heap.size → (grow (w.alloc (.cells #[.slice m d.length c] 40)) os).heap[b]? = w.heap[b]? := fun os b hb => by
  rw [alloc_eq_grow, grow_grow]; exact Array.getElem?_append_left hb
 have hbx : ∀ os, (grow (w.alloc (.cells #[.slice m d.length c] 40)) os).cell? ⟨w.heap.size, 0, none⟩ = some (.slice m d.length c) := fun os => by
  rw [cell?_grow _ _ _ (by rw [alloc_eq_grow, size_grow]; simp)]; simp
 have HS := Aside0.mk j
 have HP := Aside0.mk post
 have HO := Aside0.mk (impl_byLabels.out_tiny d (by omega))
 have hS' : Calls Tryz.prog 110 #[.iface 40 (.slice m d.length c), .func (.func 111) #[] #[.pointer (some ⟨w.heap.size, 0, none⟩)]] (w.alloc (.cells #[.slice m d.length c] 40)) fun e w' => e = .returned (.tuple #[]) ∧ w'.cell? ⟨w.heap.size, 0, none⟩ = some (.slice m d.length c) ∧ ∃ os, w' = grow (w.alloc (.cells #[.slice m d.length c] 40)) os :=
  hS.mono fun e w' ⟨he, os, hw⟩ => ⟨he, hw ▸ hbx os, os, hw⟩
 have HBX := Aside0.mk hb
 clear post j hB hq hO hS hbx hb
 go_enter Tryz.func85, Tryz.ntmps85
 go_wp2_with (go_at_call 110; refine hS'.mono ?_; rintro e w' ⟨rfl, hbx, hp⟩)
 go_ret
 obtain ⟨os, rfl⟩ := hp
 refine ⟨_, rfl, HP.out _ ?_ (fun k_ _ hl_ => HBX.out os k_ hl_) ?_ rfl rfl rfl⟩
 ·
  rw [HO.out]; exact Kd.S_step HS.out (fun b _ hl => HBX.out os b hl)
 rw [alloc_eq_grow, grow_grow, size_grow]; omega
end
noncomputable def impl_AllAlarms.l0 : Nat → List (S29) → List (S26) → Int → Int → Option ((List (S29)))
 | 0, _, _, _, _ => none
 | k + 1, x3, x6, x7, x8 => if x8 < x7 then (if 0 ≤ x8 then (if x8 < (x6.length : Int) then ((impl_AlarmsIn.f k ((rd_T26 x6 x8).f0) ((rd_T26 x6 x8).f1) ((rd_T26 x6 x8).f2)).bind fun t1426 => (if x3.length + t1426.length < 2513169434916 then (impl_AllAlarms.l0 k (x3 ++ t1426) x6 x7 (wrap64 (x8 + 1))) else (none))) else (none)) else (none)) else ((impl_byLabels.f k x3).bind fun t1432 => (some t1432))
noncomputable def impl_AllAlarms.f (k : Nat) (l0 : List (S26)) : Option ((List (S29))) := impl_AllAlarms.l0 k ([] : List (S29)) l0 (l0.length : Int) 0
theorem impl_AllAlarms.calls (k : Nat) (A0 : Option Addr) (c0 : Nat) (l0 : List (S26)) (r : List (S29)) (w : World) (T : Kd.C k26 w A0 l0.length l0) (U : l0.length ≤ c0) (h : impl_AllAlarms.f k l0 = some r) :
  Calls Tryz.prog 31 #[.slice A0 l0.length c0] w fun e w' => ∃ v0_ : Value, e = .returned (v0_) ∧ Kd.S k29 29 w' w.heap.size (fun _ => True) v0_ r ∧ Below w.heap.size w w' := by
 have hu26 := Tryz.underlying26
 have ia := Aside0.mk T
 have Aa := Aside0.mk U
 clear T U
 have o := Aside0.mk (Below.refl w.heap.size w)
 have H : (impl_AllAlarms.l0 k ([] : List (S29)) l0 (l0.length : Int) 0) = some r := h
 clear h
 have H' := Aside0.mk H
 clear H
 go_enter Tryz.func31, Tryz.ntmps31
 go_wp2
 go_loopg [3, 8] k (fun kq v3 v8 w' => ∃ (j : List (S29)) (a : Int), v8 = .int .i64 a ∧ Aside0 (impl_AllAlarms.l0 kq j l0 (l0.length : Int) a = some r) ∧ Aside0 (kq ≤ k) ∧ Aside0 (Kd.S k29 29 w' w.heap.size (fun _ => True) v3 j) ∧ Aside0 (Below w.heap.size w w'))
 case atStart => exact ⟨(([] : List (S29))), (0), rs_, H', ⟨Nat.le_refl _⟩, ⟨ni_⟩, ⟨hs_ o.out⟩⟩
 case round =>
  clear H'
  obtain ⟨j, a, rfl, HA, V, d, o⟩ := hrel
  cases gk with
  | zero => exact absurd HA.out (by simp [impl_AllAlarms.l0])
  | succ k1 =>
   have H := HA.out
   clear HA
   simp only [impl_AllAlarms.l0] at H
   replace H := ie_ H; rcases H with ⟨W, H⟩ | ⟨W, H⟩
   ·
    have X := decide_eq_true W
    clear W
    replace H := id_ H; obtain ⟨qa, H⟩ := H
    replace H := id_ H; obtain ⟨ra, H⟩ := H
    replace H := bi_ H; obtain ⟨t, A5, H⟩ := H
    replace H := im_ H; obtain ⟨Y, H⟩ := H
    obtain ⟨D, hy_⟩ : ∃ y_ : List (S29), y_ = (j ++ t) := ⟨_, rfl⟩
    replace H : (impl_AllAlarms.l0 k1 D l0 (l0.length : Int) (wrap64 (a + 1))) = some r := hm_
    have E := Aside0.mk hy_; clear hy_
    have H' := Aside0.mk H
    clear H
    obtain ⟨u, v⟩ : 0 ≤ (a : Int) ∧ a < (l0.length : Int) := pq_
    obtain ⟨ea, q, s, O, g, i, l, m, n⟩ := at_T26 ia.out a u v
    cases O
    replace g := c2_ o g i; clear i; obtain ⟨g, i⟩ := g
    replace l := cl_ o.out l
    have z := Aside0.mk n
    have A := Aside0.mk m
    clear n m
    replace u := eq_true u; replace v := eq_true v
    go_wp2_with (first | ((with_reducible refine gd_ 5 rfl ?_); refine bv_ 5 #[.int .i64 0, .int .i64 0, .slice none 0 0] 26 ?_; intro fa hg w7 L hb; replace d := sb_ d hb; have c := Aside0.mk (L); have F := gq_ hg o; replace o := st_ o hb; have ga := Ge_.mk F.out; clear hb L hg; obtain ⟨sa, ta, ua, va, wa, xa⟩ := bc3_ c.out) | ((with_reducible refine gate_callee (f := 25) rfl ?_); refine gl_ (some 14) Tryz.func25 #[.agg #[.int .i64 ((rd_T26 l0 a).f0), .int .i64 ((rd_T26 l0 a).f1), .slice q ((rd_T26 l0 a).f2).length s]] ?_; (with_reducible refine (impl_AlarmsIn.calls k1 ((rd_T26 l0 a).f0) ((rd_T26 l0 a).f1) _ _ ((rd_T26 l0 a).f2) t _ ?side1 ?side2 A5.out).mono ?_); (case side1 => exact Kd.C_below z.out (hs_ o.out)); (case side2 => exact A.out); rintro e w9 ⟨ka, rfl, B, hb⟩; refine ⟨_, rfl, ?_⟩; obtain ⟨Z, x⟩ := Kd.S_name B; replace d := su_ x (sy_ d.out c.out) hb; have p := sg_ x B o; replace c := by_ c #[.int .i64 ((rd_T26 l0 a).f0), .int .i64 ((rd_T26 l0 a).f1), .slice q ((rd_T26 l0 a).f2).length s] hb; replace o := st_ o hb; (try clear hb); (try clear hk); (try clear B); obtain ⟨ya, za, aa⟩ := Kd.S_slice p.out; subst aa; obtain ⟨P, G, y⟩ := Kd.S_fp ((Kd.S_mono p.out (fun k_ hk => (⟨hk, fun ez_ => Nat.lt_irrefl _ (Nat.lt_of_lt_of_le ((Kd.S_R d.out).1 _ ez_.symm).2 hk.2)⟩ : _ ∧ some k_ ≠ (u3 : Value).ownBlock))))) | ((with_reducible refine gate_builtin (b := .append) (xs := #[.tmp 12, .tmp 14]) rfl ?_); at_builtin; refine Kd.S_append_rows k29 (w0 := w) w.heap.size rfl (.tmp 12) (.tmp 14) 40 29 (.agg #[(.slice none 0 0), (.int .i64 0), (.int .i64 0), (.string ⟨#[]⟩)]) 56 rfl Tryz.underlying40 info29 rfl (by decide) (by omega) u3 j t _ _ _ (fun _ => True) P rfl rfl ?aR (fun k_ hk_ => ⟨trivial, (y k_ hk_).1.2⟩) ?aF ?aO ?aB ?aS ?aL ?_; (case aR => exact G); (case aB => exact (hs_ o.out)); (case aF => exact (fun _ _ => trivial)); (case aO => exact (Kd.S_mono (sp_ d.out) (fun k_ hk => ⟨trivial, fun e_ => (fun ez_ => Nat.lt_irrefl _ (Nat.lt_of_lt_of_le hk.2 (y _ ez_).1.1.2)) e_⟩))); (case aS => exact (below_size (hs_ o.out))); (case aL => have := Y.out; omega); intro la Fa ho hb hg hat; rw [← E.out] at ho; replace c := Aside0.mk (blk_grown (bq_ c.out) hg (Kd.S_ne d.out c.out (by decide))); replace o := Aside0.mk (hb); have I := Aside0.mk (ho); clear d p; clear ho hb hg hat))
    go_roundg k1
    case measure => have := V.out; omega
    case rel => exact ⟨(D), (wrap64 (a + 1)), rs_, H', ⟨by have := V.out; omega⟩, ⟨sp_ I.out⟩, ⟨hs_ o.out⟩⟩
   have X : decide (a < (l0.length : Int)) = false := decide_eq_false W
   clear W
   replace H := bi_ H; obtain ⟨Q, ma, H⟩ := H
   obtain rfl := Option.some.inj H
   obtain ⟨M, N, ba⟩ := Kd.S_slice d.out
   subst ba
   obtain ⟨R, J, ha⟩ := Kd.S_fp d.out
   go_wp2_with (first | ((with_reducible refine gate_callee (f := 85) rfl ?_); refine gl_ (some 18) Tryz.func85 #[.slice M j.length N] ?_; (with_reducible refine (impl_byLabels.calls k1 R (.slice M j.length N) j Q w _ ?side1 ?side2 ma.out).mono ?_); (case side1 => exact hs_ o.out); (case side2 => exact J); rintro e Ga ⟨na, rfl, B, hb, hkp⟩; refine ⟨_, rfl, ?_⟩; have K := Aside0.mk (Kd.S_mono (ok' := fun k_ => True) B (fun k_ hk_ => trivial)); have ca := Aside0.mk (hb); clear o d; have o := ca; clear ca; (try clear hb); (try clear hkp); (try clear B)))
   go_ret
   exact ⟨_, rr_, sp_ K.out, hs_ o.out⟩
def impl_AlarmOk.f (k : Nat) (l0_0 : List (S99)) (a0_1 : Int) (a0_2 : Int) (a0_3 : ByteArray) : Option (Bool) := if (l0_0.length : Int) > 0 then ((impl_SetOk.f k l0_0).bind fun t1026 => (if t1026 = true then ((impl_in.f a0_1 0 99999).bind fun t1027 => (if t1027 = true then ((impl_in.f a0_2 a0_1 99999).bind fun t1028 => (if t1028 = true then ((impl_PlainOk.f k a0_3).bind fun t1029 => (some t1029)) else (some false))) else (some false))) else (some false))) else (some false)
theorem impl_AlarmOk.calls (k : Nat) (l : Option Addr) (m : Nat) (a : List (S99)) (c : Int) (d : Int) (g : ByteArray) (r : Bool) (w : World) (n : Kd.C k99 w l a.length a) (o : a.length ≤ m) (h : impl_AlarmOk.f k a c d g = some r) :
  Calls Tryz.prog 106 #[.agg #[.slice l a.length m, .int .i64 c, .int .i64 d, .string g]] w fun e w' => e = .returned (.bool r) ∧ Below w.heap.size w w' := by
 have hu29 := Tryz.underlying29
 have p := Aside0.mk n
 have q := Aside0.mk o
 clear n o
 have j := Aside0.mk (Below.refl w.heap.size w)
 have H : (if (a.length : Int) > 0 then ((impl_SetOk.f k a).bind fun s => (if s = true then ((impl_in.f c 0 99999).bind fun t => (if t = true then ((impl_in.f d c 99999).bind fun u => (if u = true then ((impl_PlainOk.f k g).bind fun i => (some i)) else (some false))) else (some false))) else (some false))) else (some false)) = some r := h
 clear h
 have AHz_ := Aside0.mk H
 clear H
 go_enter Tryz.func106, Tryz.ntmps106
 go_wp2_with (first | (((with_reducible refine gd_ 1 rfl ?_); refine bv_ 1 #[.slice l a.length m, .int .i64 c, .int .i64 d, .string g] 29 ?_; intro D hg Z x hb; have b := Aside0.mk (x); have v := gq_ hg j; replace j := st_ j hb; have E := Ge_.mk v.out; clear hb x hg; obtain ⟨F, G, I, J, K, L, M, N⟩ := bc4_ b.out); refine Aside0.out ?_))
 have H := AHz_.out
 clear AHz_
 replace H := ie_ H; rcases H with ⟨y, H⟩ | ⟨y, H⟩
 ·
  have z : decide (0 < (a.length : Int)) = true := decide_eq_true y
  have A : decide (0 < a.length) = true := decide_eq_true (by omega)
  clear y
  replace H := bi_ H; obtain ⟨s, X, H⟩ := H
  replace H := ib_ H; rcases H with ⟨rfl, H⟩ | ⟨rfl, H⟩
  ·
   replace H := bi_ H; obtain ⟨t, O, H⟩ := H
   have AHz_ := Aside0.mk H
   clear H
   refine ⟨?_⟩
   go_wp2_with (first | ((go_at_call 116; (with_reducible refine (impl_SetOk.calls k _ _ a true _ ?side1 ?side2 X.out).mono ?_); (case side1 => exact cp_ ((Kd.C_below p.out j.out))); (case side2 => exact q.out); rintro e aa ⟨rfl, hb⟩; replace b := bk2_ b hb; replace j := st_ j hb; (try clear hb); (try clear hk); obtain ⟨P, Q, R, S, T, U, V, W⟩ := bc4_ b.out); refine Aside0.out ?_))
   have H := AHz_.out
   clear AHz_
   replace H := ib_ H; rcases H with ⟨rfl, H⟩ | ⟨rfl, H⟩
   ·
    replace H := bi_ H; obtain ⟨u, Y, H⟩ := H
    replace H := ib_ H; rcases H with ⟨rfl, H⟩ | ⟨rfl, H⟩
    ·
     replace H := bi_ H; obtain ⟨i, A9, H⟩ := H
     obtain rfl := Option.some.inj H
     refine ⟨?_⟩
     go_wp2_with (first | (go_at_call 75; (with_reducible refine (impl_in.calls c 0 99999 true _ O.out).mono ?_); rintro e w' ⟨rfl, ⟨B, rfl⟩⟩) | (go_at_call 75; (with_reducible refine (impl_in.calls d c 99999 true _ Y.out).mono ?_); rintro e w' ⟨rfl, ⟨B, rfl⟩⟩) | (go_at_call 121; (with_reducible refine (impl_PlainOk.calls k g i _ A9.out).mono ?_); rintro e w' ⟨rfl, ⟨B, rfl⟩⟩))
     go_ret
     exact an_ (hs_ j.out)
    obtain rfl := Option.some.inj H
    refine ⟨?_⟩
    go_wp2_with (first | (go_at_call 75; (with_reducible refine (impl_in.calls c 0 99999 true _ O.out).mono ?_); rintro e w' ⟨rfl, ⟨B, rfl⟩⟩) | (go_at_call 75; (with_reducible refine (impl_in.calls d c 99999 false _ Y.out).mono ?_); rintro e w' ⟨rfl, ⟨B, rfl⟩⟩))
    go_ret
    exact an_ (hs_ j.out)
   obtain rfl := Option.some.inj H
   refine ⟨?_⟩
   go_wp2_with (first | (go_at_call 75; (with_reducible refine (impl_in.calls c 0 99999 false _ O.out).mono ?_); rintro e w' ⟨rfl, ⟨B, rfl⟩⟩))
   go_ret
   exact an_ (hs_ j.out)
  obtain rfl := Option.some.inj H
  refine ⟨?_⟩
  go_wp2_with (first | (go_at_call 116; (with_reducible refine (impl_SetOk.calls k _ _ a false _ ?side1 ?side2 X.out).mono ?_); (case side1 => exact cp_ ((Kd.C_below p.out j.out))); (case side2 => exact q.out); rintro e ca ⟨rfl, hb⟩; replace b := bk2_ b hb; replace j := st_ j hb; (try clear hb); (try clear hk)))
  go_ret
  exact an_ (hs_ j.out)
 have z : decide (0 < (a.length : Int)) = false := decide_eq_false y
 have A : decide (0 < a.length) = false := decide_eq_false (by omega)
 clear y
 obtain rfl := Option.some.inj H
 refine ⟨?_⟩
 go_wp2
 go_ret
 exact an_ (hs_ j.out)
def impl_labelsApart.l0 : Nat → List (S29) → List (S29) → Int → Int → Option (Bool)
 | 0, _, _, _, _ => none
 | k + 1, x0, x5, x6, x7 => if x7 < x6 then (if 0 ≤ x7 then (if x7 < (x5.length : Int) then (if x7 ≤ (x0.length : Int) then ((impl_labelsAt.f k (x0.take (x7 : Int).toNat) ((rd_T29 x5 x7).f0)).bind fun t1036 => (if t1036 ≥ 0 then (some false) else (impl_labelsApart.l0 k x0 x5 x6 (wrap64 (x7 + 1))))) else (none)) else (none)) else (none)) else (some true)
def impl_labelsApart.f (k : Nat) (l0 : List (S29)) : Option (Bool) := impl_labelsApart.l0 k l0 l0 (l0.length : Int) 0
theorem impl_labelsApart.calls (k : Nat) (A0 : Option Addr) (Y : Nat) (l0 : List (S29)) (r : Bool) (w : World) (fa : Kd.C k29 w A0 l0.length l0) (ga : l0.length ≤ Y) (h : impl_labelsApart.f k l0 = some r) :
  Calls Tryz.prog 107 #[.slice A0 l0.length Y] w fun e w' => e = .returned (.bool r) ∧ Below w.heap.size w w' := by
 have hu29 := Tryz.underlying29
 have Z := Aside0.mk fa
 have ha := Aside0.mk ga
 clear fa ga
 have x := Aside0.mk (Below.refl w.heap.size w)
 have H : (impl_labelsApart.l0 k l0 l0 (l0.length : Int) 0) = some r := h
 clear h
 have H' := Aside0.mk H
 clear H
 go_enter Tryz.func107, Tryz.ntmps107
 go_wp2
 go_loopg [7] k (fun kq v7 w' => ∃ (a : Int), v7 = .int .i64 a ∧ Aside0 (impl_labelsApart.l0 kq l0 l0 (l0.length : Int) a = some r) ∧ Aside0 (kq ≤ k) ∧ Aside0 (Below w.heap.size w w'))
 case atStart => exact ⟨(0), rs_, H', ⟨Nat.le_refl _⟩, ⟨hs_ x.out⟩⟩
 case round =>
  clear H'
  obtain ⟨a, rfl, HA, ia, x⟩ := hrel
  cases gk with
  | zero => exact absurd HA.out (by simp [impl_labelsApart.l0])
  | succ k1 =>
   have H := HA.out
   clear HA
   simp only [impl_labelsApart.l0] at H
   replace H := ie_ H; rcases H with ⟨c2, H⟩ | ⟨c2, H⟩
   ·
    have la := decide_eq_true c2
    clear c2
    replace H := id_ H; obtain ⟨Ja, H⟩ := H
    replace H := id_ H; obtain ⟨Ka, H⟩ := H
    have La := eq_true (of_decide_eq_true (by with_reducible assumption) : 0 ≤ a)
    replace H := in_ H; obtain ⟨c6, H⟩ := H
    have Ma := eq_true c6
    have Na := decide_eq_true c6
    clear c6
    obtain ⟨t, hy_⟩ : ∃ y_ : List (S29), y_ = (l0.take (a : Int).toNat) := ⟨_, rfl⟩
    replace H : ((impl_labelsAt.f k1 t ((rd_T29 l0 a).f0)).bind fun D => (if D ≥ 0 then (some false) else (impl_labelsApart.l0 k1 l0 l0 (l0.length : Int) (wrap64 (a + 1))))) = some r := hm_
    have G := Aside0.mk hy_; clear hy_
    replace H := bi_ H; obtain ⟨D, A7, H⟩ := H
    replace H := ie_ H; rcases H with ⟨c8, H⟩ | ⟨c8, H⟩
    ·
     have na : decide (0 ≤ D) = true := decide_eq_true c8
     clear c8
     obtain rfl := Option.some.inj H
     obtain ⟨y, z⟩ : 0 ≤ (a : Int) ∧ a < (l0.length : Int) := pq_
     obtain ⟨u, g, j, M, d, l, o, p, q, s⟩ := at_T29 Z.out a y z
     cases M
     replace d := c4_ x d l o p; clear l o p; obtain ⟨d, l, o, p⟩ := d
     have E := Aside0.mk s
     have F := Aside0.mk q
     clear s q
     replace y := eq_true y; replace z := eq_true z
     try go_wp2_with (first | ((with_reducible refine gd_ 4 rfl ?_); refine bv_ 4 #[.slice none 0 0, .int .i64 0, .int .i64 0, .string (⟨#[]⟩ : ByteArray)] 29 ?_; intro c hg w9 L hb; have b := Aside0.mk (L); have I := gq_ hg x; replace x := st_ x hb; have aa := Ge_.mk I.out; clear hb L hg; obtain ⟨qa, ra, sa, ta, ua, va, wa, xa⟩ := bc4_ b.out))
     generalize hw_ : ((((w9.setCell ⟨c, 0, none⟩ (.slice g ((rd_T29 l0 a).f0).length j)).setCell ⟨c, 1, none⟩ (.int .i64 ((rd_T29 l0 a).f1))).setCell ⟨c, 2, none⟩ (.int .i64 ((rd_T29 l0 a).f2))).setCell ⟨c, 3, none⟩ (.string ((rd_T29 l0 a).f3))) = ba
     have O : Aside0 (ba.heap[c]? = some (.cells #[.slice g ((rd_T29 l0 a).f0).length j, .int .i64 ((rd_T29 l0 a).f1), .int .i64 ((rd_T29 l0 a).f2), .string ((rd_T29 l0 a).f3)] 29 (0, 0))) := ⟨by rw [← hw_]; exact (bp_ b.out)⟩
     have Q : Aside0 (Below w.heap.size w ba) := ⟨by rw [← hw_]; exact (hs_ x.out)⟩
     clear hw_
     (try clear b)
     (try clear x)
     have b := O
     have x := Q
     clear O Q
     replace b := Aside0.mk (blk_drew b.out)
     replace x := Aside0.mk (bd_ x.out)
     have ca : (a : Int) ≤ ((l0.length : Int) : Int) := of_decide_eq_true (by with_reducible assumption)
     obtain ⟨i013, R, _, hsz13, _⟩ := info_parts info29
     have hroom13 : l0.length ≤ Y := ha.out
     have hC13 : Kd.C k29 _ (some u) l0.length l0 := Z.out
     have hcut13 := cut_to (P := Tryz.prog) 40 29 .i64 Tryz.underlying40 R (some u) l0.length Y a (of_decide_eq_true (by with_reducible assumption)) ca hroom13
     have T := Kd.C_take (m := (a : Int).toNat) hC13 (by omega)
     have U : t.length = (a : Int).toNat := (by rw [G.out, List.length_take]; omega)
     rw [← G.out] at T
     rw [← U] at hcut13
     have B := Aside0.mk T
     have J := Aside0.mk (show t.length ≤ Y from by omega)
     clear T hC13 hroom13 R hsz13
     have KY13 := Aside0.mk U
     clear U
     replace ca := eq_true ca
     refine start_ (n := 7) (S := fun w' => w'.cell? ⟨c, 0, none⟩ = some (.slice g ((rd_T29 l0 a).f0).length j) ∧ w'.cell? ⟨c, 1, none⟩ = some (.int .i64 ((rd_T29 l0 a).f1)) ∧ w'.cell? ⟨c, 2, none⟩ = some (.int .i64 ((rd_T29 l0 a).f2)) ∧ w'.cell? ⟨c, 3, none⟩ = some (.string ((rd_T29 l0 a).f3))) (ds := []) (b_ 0 7) (by kernel_rfl) rfl rfl ⟨bx_ b.out 0, bx_ b.out 1, bx_ b.out 2, bx_ b.out 3⟩ (fun A => ?_)
     generalize ba.drew = Ra at b x B A ⊢
     refine pure_ (i := 0) (N := some 12) (v := ?_) (a' := ?_) (b_ 1 6) rfl rfl (by kernel_rfl) (fun _ _ _ h => h) (Or.inl ⟨by rfl, ?_⟩) ?_ ?_
     rotate_left
     ·
      intro w'
      go_simp
      with_reducible rfl
     rotate_left
     ·
      simp only [fr_]
      rfl
     refine pure_ (i := 1) (N := some 13) (v := ?_) (a' := ?_) (b_ 2 5) rfl rfl (by kernel_rfl) (fun _ _ _ h => h) (Or.inl ⟨by rfl, ?_⟩) ?_ ?_
     rotate_left
     ·
      intro w'
      go_simp
      with_reducible rfl
     rotate_left
     ·
      simp only [fr_]
      rfl
     refine pure_ (i := 2) (N := some 14) (v := ?_) (a' := ?_) (b_ 3 4) rfl rfl (by kernel_rfl) (fun _ _ _ h => h) (Or.inl ⟨by rfl, ?_⟩) ?_ ?_
     rotate_left
     ·
      intro w'
      go_simp
      with_reducible rfl
     rotate_left
     ·
      simp only [fr_]
      rfl
     refine pure_ (i := 3) (N := some 15) (v := ?_) (a' := ?_) (b_ 4 3) rfl rfl (by kernel_rfl) (fun _ _ _ h => h) (Or.inl ⟨by rfl, ?_⟩) ?_ ?_
     rotate_left
     ·
      intro w'
      go_simp
      with_reducible rfl
     rotate_left
     ·
      simp only [fr_]
      rfl
     refine take_ (i := 4) (N := some 16) (v := ?_) (a' := ?_) (b_ 5 2) rfl rfl (by kernel_rfl) (fun _ _ _ h => h) (Or.inl ⟨by rfl, ?_⟩) A ?_ ?_
     rotate_left
     ·
      rintro w' ⟨s0, s1, s2, s3⟩
      go_simp
      with_reducible rfl
     rotate_left
     ·
      simp only [fr_]
      rfl
     refine one_ (i := 5) (N := some 17) (b_ 6 1) rfl rfl (by kernel_rfl) (by decide) (fun K hK => ?_)
     refine gs_ Tryz.func101 #[.slice (some u) t.length Y, .slice g ((rd_T29 l0 a).f0).length j] ?_
     with_reducible refine (impl_labelsAt.calls k1 _ _ t _ _ ((rd_T29 l0 a).f0) D _ ?side1 ?side2 ?side3 ?side4 A7.out).mono ?_
     (case side1 => exact cp_ ((Kd.C_below B.out x.out)))
     (case side2 => exact J.out)
     (case side3 => exact cp_ ((Kd.C_below E.out x.out)))
     (case side4 => exact F.out)
     rintro e Sa ⟨rfl, hb⟩
     refine ⟨_, rfl, ?_⟩
     replace b := bk2_ b hb
     replace x := st_ x hb
     (try clear hb)
     (try clear hk)
     refine ho_ hK (e4_ b.out) (fun A => ?_)
     refine pure_ (i := 6) (N := some 18) (v := ?_) (a' := ?_) (b_ 7 0) rfl rfl (by kernel_rfl) (fun _ _ _ h => h) (Or.inl ⟨by rfl, ?_⟩) ?_ ?_
     rotate_left
     ·
      intro w'
      go_simp
      with_reducible rfl
     rotate_left
     ·
      simp only [fr_]
      rfl
     refine done_ (by kernel_rfl) ?_
     try go_wp2
     go_ret
     exact an_ (hs_ x.out)
    have na : decide (0 ≤ D) = false := decide_eq_false c8
    clear c8
    have H' := Aside0.mk H
    clear H
    obtain ⟨y, z⟩ : 0 ≤ (a : Int) ∧ a < (l0.length : Int) := pq_
    obtain ⟨u, g, j, M, d, l, o, p, q, s⟩ := at_T29 Z.out a y z
    cases M
    replace d := c4_ x d l o p; clear l o p; obtain ⟨d, l, o, p⟩ := d
    have E := Aside0.mk s
    have F := Aside0.mk q
    clear s q
    replace y := eq_true y; replace z := eq_true z
    try go_wp2_with (first | ((with_reducible refine gd_ 4 rfl ?_); refine bv_ 4 #[.slice none 0 0, .int .i64 0, .int .i64 0, .string (⟨#[]⟩ : ByteArray)] 29 ?_; intro c hg za L hb; have b := Aside0.mk (L); have I := gq_ hg x; replace x := st_ x hb; have aa := Ge_.mk I.out; clear hb L hg; obtain ⟨Aa, Ba, Ca, Da, Ea, Fa, Ga, Ha⟩ := bc4_ b.out))
    generalize hw_ : ((((za.setCell ⟨c, 0, none⟩ (.slice g ((rd_T29 l0 a).f0).length j)).setCell ⟨c, 1, none⟩ (.int .i64 ((rd_T29 l0 a).f1))).setCell ⟨c, 2, none⟩ (.int .i64 ((rd_T29 l0 a).f2))).setCell ⟨c, 3, none⟩ (.string ((rd_T29 l0 a).f3))) = da
    have O : Aside0 (da.heap[c]? = some (.cells #[.slice g ((rd_T29 l0 a).f0).length j, .int .i64 ((rd_T29 l0 a).f1), .int .i64 ((rd_T29 l0 a).f2), .string ((rd_T29 l0 a).f3)] 29 (0, 0))) := ⟨by rw [← hw_]; exact (bp_ b.out)⟩
    have Q : Aside0 (Below w.heap.size w da) := ⟨by rw [← hw_]; exact (hs_ x.out)⟩
    clear hw_
    (try clear b)
    (try clear x)
    have b := O
    have x := Q
    clear O Q
    replace b := Aside0.mk (blk_drew b.out)
    replace x := Aside0.mk (bd_ x.out)
    have ea : (a : Int) ≤ ((l0.length : Int) : Int) := of_decide_eq_true (by with_reducible assumption)
    obtain ⟨i019, V, _, hsz19, _⟩ := info_parts info29
    have hroom19 : l0.length ≤ Y := ha.out
    have hC19 : Kd.C k29 _ (some u) l0.length l0 := Z.out
    have hcut19 := cut_to (P := Tryz.prog) 40 29 .i64 Tryz.underlying40 V (some u) l0.length Y a (of_decide_eq_true (by with_reducible assumption)) ea hroom19
    have W := Kd.C_take (m := (a : Int).toNat) hC19 (by omega)
    have X : t.length = (a : Int).toNat := (by rw [G.out, List.length_take]; omega)
    rw [← G.out] at W
    rw [← X] at hcut19
    have B := Aside0.mk W
    have J := Aside0.mk (show t.length ≤ Y from by omega)
    clear W hC19 hroom19 V hsz19
    have KY19 := Aside0.mk X
    clear X
    replace ea := eq_true ea
    refine start_ (n := 7) (S := fun w' => w'.cell? ⟨c, 0, none⟩ = some (.slice g ((rd_T29 l0 a).f0).length j) ∧ w'.cell? ⟨c, 1, none⟩ = some (.int .i64 ((rd_T29 l0 a).f1)) ∧ w'.cell? ⟨c, 2, none⟩ = some (.int .i64 ((rd_T29 l0 a).f2)) ∧ w'.cell? ⟨c, 3, none⟩ = some (.string ((rd_T29 l0 a).f3))) (ds := []) (b_ 0 7) (by kernel_rfl) rfl rfl ⟨bx_ b.out 0, bx_ b.out 1, bx_ b.out 2, bx_ b.out 3⟩ (fun A => ?_)
    generalize da.drew = Ta at b x B A ⊢
    refine pure_ (i := 0) (N := some 12) (v := ?_) (a' := ?_) (b_ 1 6) rfl rfl (by kernel_rfl) (fun _ _ _ h => h) (Or.inl ⟨by rfl, ?_⟩) ?_ ?_
    rotate_left
    ·
     intro w'
     go_simp
     with_reducible rfl
    rotate_left
    ·
     simp only [fr_]
     rfl
    refine pure_ (i := 1) (N := some 13) (v := ?_) (a' := ?_) (b_ 2 5) rfl rfl (by kernel_rfl) (fun _ _ _ h => h) (Or.inl ⟨by rfl, ?_⟩) ?_ ?_
    rotate_left
    ·
     intro w'
     go_simp
     with_reducible rfl
    rotate_left
    ·
     simp only [fr_]
     rfl
    refine pure_ (i := 2) (N := some 14) (v := ?_) (a' := ?_) (b_ 3 4) rfl rfl (by kernel_rfl) (fun _ _ _ h => h) (Or.inl ⟨by rfl, ?_⟩) ?_ ?_
    rotate_left
    ·
     intro w'
     go_simp
     with_reducible rfl
    rotate_left
    ·
     simp only [fr_]
     rfl
    refine pure_ (i := 3) (N := some 15) (v := ?_) (a' := ?_) (b_ 4 3) rfl rfl (by kernel_rfl) (fun _ _ _ h => h) (Or.inl ⟨by rfl, ?_⟩) ?_ ?_
    rotate_left
    ·
     intro w'
     go_simp
     with_reducible rfl
    rotate_left
    ·
     simp only [fr_]
     rfl
    refine take_ (i := 4) (N := some 16) (v := ?_) (a' := ?_) (b_ 5 2) rfl rfl (by kernel_rfl) (fun _ _ _ h => h) (Or.inl ⟨by rfl, ?_⟩) A ?_ ?_
    rotate_left
    ·
     rintro w' ⟨s0, s1, s2, s3⟩
     go_simp
     with_reducible rfl
    rotate_left
    ·
     simp only [fr_]
     rfl
    refine one_ (i := 5) (N := some 17) (b_ 6 1) rfl rfl (by kernel_rfl) (by decide) (fun K hK => ?_)
    refine gs_ Tryz.func101 #[.slice (some u) t.length Y, .slice g ((rd_T29 l0 a).f0).length j] ?_
    with_reducible refine (impl_labelsAt.calls k1 _ _ t _ _ ((rd_T29 l0 a).f0) D _ ?side1 ?side2 ?side3 ?side4 A7.out).mono ?_
    (case side1 => exact cp_ ((Kd.C_below B.out x.out)))
    (case side2 => exact J.out)
    (case side3 => exact cp_ ((Kd.C_below E.out x.out)))
    (case side4 => exact F.out)
    rintro e Ua ⟨rfl, hb⟩
    refine ⟨_, rfl, ?_⟩
    replace b := bk2_ b hb
    replace x := st_ x hb
    (try clear hb)
    (try clear hk)
    refine ho_ hK (e4_ b.out) (fun A => ?_)
    refine pure_ (i := 6) (N := some 18) (v := ?_) (a' := ?_) (b_ 7 0) rfl rfl (by kernel_rfl) (fun _ _ _ h => h) (Or.inl ⟨by rfl, ?_⟩) ?_ ?_
    rotate_left
    ·
     intro w'
     go_simp
     with_reducible rfl
    rotate_left
    ·
     simp only [fr_]
     rfl
    refine done_ (by kernel_rfl) ?_
    try go_wp2
    go_roundg k1
    case measure => have := ia.out; omega
    case rel => exact ⟨(wrap64 (a + 1)), rs_, H', ⟨by have := ia.out; omega⟩, ⟨hs_ x.out⟩⟩
   have la : decide (a < (l0.length : Int)) = false := decide_eq_false c2
   clear c2
   obtain rfl := Option.some.inj H
   go_wp2
   go_ret
   exact an_ (hs_ x.out)
def impl_ChainOk.l0 : Nat → List (S29) → Int → Int → Int → List (S29) → Option (Bool)
 | 0, _, _, _, _, _ => none
 | k + 1, x6, x7, x8, x1038000, x1038001 => if x8 < x7 then (if 0 ≤ x8 then (if x8 < (x6.length : Int) then ((impl_AlarmOk.f k ((rd_T29 x6 x8).f0) ((rd_T29 x6 x8).f1) ((rd_T29 x6 x8).f2) ((rd_T29 x6 x8).f3)).bind fun t1041 => (if t1041 = true then ((impl_Finger.f k ((rd_T29 x6 x8).f0)).bind fun t1042 => (if t1042 = x1038000 then (impl_ChainOk.l0 k x6 x7 (wrap64 (x8 + 1)) x1038000 x1038001) else (some false))) else (some false))) else (none)) else (none)) else (if (x1038001.length : Int) > 0 then ((impl_labelsApart.f k x1038001).bind fun t1038 => (some t1038)) else (some false))
def impl_ChainOk.f (k : Nat) (a0_0 : Int) (l0_1 : List (S29)) : Option (Bool) := impl_ChainOk.l0 k l0_1 (l0_1.length : Int) 0 a0_0 l0_1
def impl_ChainOk.T4 : Bool × List (List Nat × List Nat) := (true, [([], []), ([0], [0]), ([1], [1]), ([2, 1], [2]), ([3], [3]), ([4, 3], [3, 4]), ([5, 3, 3], [3, 5]), ([3], [3]), ([7, 3], [3, 7]), ([6, 8, 3], [3, 6, 8]), ([3, 9], [3, 9])])
def impl_ChainOk.B4 : List Nat := [0, 1, 3, 7, 15, 31, 63, 15, 143, 511, 1023]
theorem impl_ChainOk.tab4 : rtab .any (opsOf Tryz.f73 4) = impl_ChainOk.T4 := by kernel_rfl
theorem impl_ChainOk.bits4 : waitsOk impl_ChainOk.T4.2 impl_ChainOk.B4 = true := by kernel_rfl
theorem impl_ChainOk.calls (k : Nat) (B : Int) (U : Option Addr) (J : Nat) (a : List (S29)) (r : Bool) (w : World) (X : Kd.C k29 w U a.length a) (Y : a.length ≤ J) (h : impl_ChainOk.f k B a = some r) :
  Calls Tryz.prog 73 #[.agg #[.int .i64 B, .slice U a.length J]] w fun e w' => e = .returned (.bool r) ∧ Below w.heap.size w w' := by
 have hu80 := Tryz.underlying80
 have hu29 := Tryz.underlying29
 have O := Aside0.mk X
 have fa := Aside0.mk Y
 clear X Y
 have x := Aside0.mk (Below.refl w.heap.size w)
 have H : (impl_ChainOk.l0 k a (a.length : Int) 0 B a) = some r := h
 clear h
 have H' := Aside0.mk H
 clear H
 go_enter Tryz.func73, Tryz.ntmps73
 go_wp2_with (first | ((with_reducible refine gd_ 1 rfl ?_); refine bv_ 1 #[.int .i64 B, .slice U a.length J] 80 ?_; intro F hg w2 I hb; have b := Aside0.mk (I); have aa := gq_ hg x; replace x := st_ x hb; have pa := Ge_.mk aa.out; clear hb I hg; obtain ⟨kb, lb, mb, nb⟩ := bc2_ b.out))
 go_loopg [8] k (fun kq v8 w' => ∃ (d : Int), v8 = .int .i64 d ∧ Aside0 (impl_ChainOk.l0 kq a (a.length : Int) d B a = some r) ∧ Aside0 (kq ≤ k) ∧ Aside0 (w'.heap[F]? = some (.cells #[.int .i64 B, (.slice U a.length J)] 80 (0, 0))) ∧ Aside0 (Below w.heap.size w w'))
 case atStart => exact ⟨(0), rs_, H', ⟨Nat.le_refl _⟩, ⟨bq_ b.out⟩, ⟨hs_ x.out⟩⟩
 case round =>
  clear H'
  obtain ⟨d, rfl, HA, ma, b, x⟩ := hrel
  cases gk with
  | zero => exact absurd HA.out (by simp [impl_ChainOk.l0])
  | succ k1 =>
   have H := HA.out
   clear HA
   simp only [impl_ChainOk.l0] at H
   replace H := ie_ H; rcases H with ⟨c4, H⟩ | ⟨c4, H⟩
   ·
    have oa := decide_eq_true c4
    clear c4
    replace H := id_ H; obtain ⟨ob, H⟩ := H
    replace H := id_ H; obtain ⟨pb, H⟩ := H
    replace H := bi_ H; obtain ⟨ra, A7, H⟩ := H
    replace H := ib_ H; rcases H with ⟨rfl, H⟩ | ⟨rfl, H⟩
    ·
     replace H := bi_ H; obtain ⟨M, A9, H⟩ := H
     replace H := ie_ H; rcases H with ⟨W, H⟩ | ⟨W, H⟩
     ·
      have ha : (M == B) = true := beq_iff_eq.mpr W
      have ia : (M != B) = false := bne_eq_false_iff_eq.mpr W
      clear W
      have H' := Aside0.mk H
      clear H
      obtain ⟨D, E⟩ : 0 ≤ (d : Int) ∧ d < (a.length : Int) := pq_
      obtain ⟨G, j, l, N, i, m, o, p, s, t⟩ := at_T29 O.out d D E
      cases N
      replace i := c4_ x i m o p; clear m o p; obtain ⟨i, m, o, p⟩ := i
      have y := Aside0.mk t
      have z := Aside0.mk s
      clear t s
      replace D := eq_true D; replace E := eq_true E
      try go_wp2_with (first | ((with_reducible refine gd_ 4 rfl ?_); refine bv_ 4 #[.slice none 0 0, .int .i64 0, .int .i64 0, .string (⟨#[]⟩ : ByteArray)] 29 ?_; intro g hg ta I hb; have c := Aside0.mk (I); have L := gq_ hg x; replace x := st_ x hb; have V := Ge_.mk L.out; obtain ⟨u, v, b⟩ := nb_ b hg hb; clear hb I hg; have ua := v.out; have va := u.out; obtain ⟨wa, xa, ya, za, Aa, Ba, Ca, Da⟩ := bc4_ c.out))
      generalize hw_ : ((((ta.setCell ⟨g, 0, none⟩ (.slice j ((rd_T29 a d).f0).length l)).setCell ⟨g, 1, none⟩ (.int .i64 ((rd_T29 a d).f1))).setCell ⟨g, 2, none⟩ (.int .i64 ((rd_T29 a d).f2))).setCell ⟨g, 3, none⟩ (.string ((rd_T29 a d).f3))) = ba
      have Q : Aside0 (ba.heap[F]? = some (.cells #[.int .i64 B, .slice (some G) a.length J] 80 (0, 0))) := ⟨by rw [← hw_]; exact (bq_ b.out)⟩
      have R : Aside0 (ba.heap[g]? = some (.cells #[.slice j ((rd_T29 a d).f0).length l, .int .i64 ((rd_T29 a d).f1), .int .i64 ((rd_T29 a d).f2), .string ((rd_T29 a d).f3)] 29 (0, 0))) := ⟨by rw [← hw_]; exact (bp_ c.out)⟩
      have T : Aside0 (Below w.heap.size w ba) := ⟨by rw [← hw_]; exact (hs_ x.out)⟩
      clear hw_
      (try clear b)
      (try clear c)
      (try clear x)
      have b := Q
      have c := R
      have x := T
      clear Q R T
      replace b := Aside0.mk (blk_drew b.out)
      replace c := Aside0.mk (blk_drew c.out)
      replace x := Aside0.mk (bd_ x.out)
      refine start_ (n := 11) (S := fun w' => w'.cell? ⟨g, 0, none⟩ = some (.slice j ((rd_T29 a d).f0).length l) ∧ w'.cell? ⟨g, 1, none⟩ = some (.int .i64 ((rd_T29 a d).f1)) ∧ w'.cell? ⟨g, 2, none⟩ = some (.int .i64 ((rd_T29 a d).f2)) ∧ w'.cell? ⟨g, 3, none⟩ = some (.string ((rd_T29 a d).f3)) ∧ w'.cell? ⟨F, 0, none⟩ = some (.int .i64 B) ∧ w'.cell? ⟨F, 1, none⟩ = some (.slice (some G) a.length J)) (ds := []) (b_ 0 11) (by kernel_rfl) rfl rfl ⟨bx_ c.out 0, bx_ c.out 1, bx_ c.out 2, bx_ c.out 3, bx_ b.out 0, bx_ b.out 1⟩ (fun q => ?_); refine with_tabW impl_ChainOk.tab4 impl_ChainOk.bits4 (fun A P => ?_)
      generalize ba.drew = sb at b c x q ⊢
      refine t0_ A P q ?_
      refine o1_ 1 (b_ 2 9) A (fun K hK => ?_)
      refine gs_ Tryz.func106 #[.agg #[.slice j ((rd_T29 a d).f0).length l, .int .i64 ((rd_T29 a d).f1), .int .i64 ((rd_T29 a d).f2), .string ((rd_T29 a d).f3)]] ?_
      with_reducible refine (impl_AlarmOk.calls k1 _ _ ((rd_T29 a d).f0) ((rd_T29 a d).f1) ((rd_T29 a d).f2) ((rd_T29 a d).f3) true _ ?side1 ?side2 A7.out).mono ?_
      (case side1 => exact cp_ ((Kd.C_below y.out x.out)))
      (case side2 => exact z.out)
      rintro e tb ⟨rfl, hb⟩
      refine ⟨_, rfl, ?_⟩
      replace b := bk2_ b hb
      replace c := bk2_ c hb
      replace x := st_ x hb
      (try clear hb)
      (try clear hk)
      refine ho_ hK (f4_ c.out (e2_ b.out)) (fun q => ?_)
      iterate 3 refine p_ A ?_
      refine qw_ 7 (m_ 11 159) A ?_
      refine qt_ 5 (m_ 11 191) A P q ?_
      refine qt_ 8 (m_ 11 447) A P q ?_
      refine o1_ 6 (b_ 9 2) A (fun K hK => ?_)
      refine gs_ Tryz.func55 #[.slice j ((rd_T29 a d).f0).length l] ?_
      with_reducible refine (impl_Finger.calls k1 _ _ ((rd_T29 a d).f0) M _ ?side1 ?side2 A9.out).mono ?_
      (case side1 => exact cp_ ((Kd.C_below y.out x.out)))
      (case side2 => exact z.out)
      rintro e ub ⟨rfl, hb⟩
      refine ⟨_, rfl, ?_⟩
      replace b := bk2_ b hb
      replace c := bk2_ c hb
      replace x := st_ x hb
      (try clear hb)
      (try clear hk)
      refine ho_ hK (f4_ c.out (e2_ b.out)) (fun q => ?_)
      iterate 2 refine p_ A ?_
      refine done_ (done_of A.out (by kernel_rfl)) ?_
      try go_wp2
      go_roundg k1
      case measure => have := ma.out; omega
      case rel => exact ⟨(wrap64 (d + 1)), rs_, H', ⟨by have := ma.out; omega⟩, ⟨bq_ b.out⟩, ⟨hs_ x.out⟩⟩
     have ha : (M == B) = false := beq_eq_false_iff_ne.mpr W
     have ia : (M != B) = true := bne_iff_ne.mpr W
     obtain rfl := Option.some.inj H
     obtain ⟨D, E⟩ : 0 ≤ (d : Int) ∧ d < (a.length : Int) := pq_
     obtain ⟨G, j, l, N, i, m, o, p, s, t⟩ := at_T29 O.out d D E
     cases N
     replace i := c4_ x i m o p; clear m o p; obtain ⟨i, m, o, p⟩ := i
     have y := Aside0.mk t
     have z := Aside0.mk s
     clear t s
     replace D := eq_true D; replace E := eq_true E
     try go_wp2_with (first | ((with_reducible refine gd_ 4 rfl ?_); refine bv_ 4 #[.slice none 0 0, .int .i64 0, .int .i64 0, .string (⟨#[]⟩ : ByteArray)] 29 ?_; intro g hg Ea I hb; have c := Aside0.mk (I); have L := gq_ hg x; replace x := st_ x hb; have V := Ge_.mk L.out; obtain ⟨u, v, b⟩ := nb_ b hg hb; clear hb I hg; have Fa := v.out; have Ga := u.out; obtain ⟨Ha, Ia, Ja, Ka, La, Ma, Na, Oa⟩ := bc4_ c.out))
     generalize hw_ : ((((Ea.setCell ⟨g, 0, none⟩ (.slice j ((rd_T29 a d).f0).length l)).setCell ⟨g, 1, none⟩ (.int .i64 ((rd_T29 a d).f1))).setCell ⟨g, 2, none⟩ (.int .i64 ((rd_T29 a d).f2))).setCell ⟨g, 3, none⟩ (.string ((rd_T29 a d).f3))) = da
     have Q : Aside0 (da.heap[F]? = some (.cells #[.int .i64 B, .slice (some G) a.length J] 80 (0, 0))) := ⟨by rw [← hw_]; exact (bq_ b.out)⟩
     have R : Aside0 (da.heap[g]? = some (.cells #[.slice j ((rd_T29 a d).f0).length l, .int .i64 ((rd_T29 a d).f1), .int .i64 ((rd_T29 a d).f2), .string ((rd_T29 a d).f3)] 29 (0, 0))) := ⟨by rw [← hw_]; exact (bp_ c.out)⟩
     have T : Aside0 (Below w.heap.size w da) := ⟨by rw [← hw_]; exact (hs_ x.out)⟩
     clear hw_
     (try clear b)
     (try clear c)
     (try clear x)
     have b := Q
     have c := R
     have x := T
     clear Q R T
     replace b := Aside0.mk (blk_drew b.out)
     replace c := Aside0.mk (blk_drew c.out)
     replace x := Aside0.mk (bd_ x.out)
     refine start_ (n := 11) (S := fun w' => w'.cell? ⟨g, 0, none⟩ = some (.slice j ((rd_T29 a d).f0).length l) ∧ w'.cell? ⟨g, 1, none⟩ = some (.int .i64 ((rd_T29 a d).f1)) ∧ w'.cell? ⟨g, 2, none⟩ = some (.int .i64 ((rd_T29 a d).f2)) ∧ w'.cell? ⟨g, 3, none⟩ = some (.string ((rd_T29 a d).f3)) ∧ w'.cell? ⟨F, 0, none⟩ = some (.int .i64 B) ∧ w'.cell? ⟨F, 1, none⟩ = some (.slice (some G) a.length J)) (ds := []) (b_ 0 11) (by kernel_rfl) rfl rfl ⟨bx_ c.out 0, bx_ c.out 1, bx_ c.out 2, bx_ c.out 3, bx_ b.out 0, bx_ b.out 1⟩ (fun q => ?_); refine with_tabW impl_ChainOk.tab4 impl_ChainOk.bits4 (fun A P => ?_)
     generalize da.drew = vb at b c x q ⊢
     refine t0_ A P q ?_
     refine o1_ 1 (b_ 2 9) A (fun K hK => ?_)
     refine gs_ Tryz.func106 #[.agg #[.slice j ((rd_T29 a d).f0).length l, .int .i64 ((rd_T29 a d).f1), .int .i64 ((rd_T29 a d).f2), .string ((rd_T29 a d).f3)]] ?_
     with_reducible refine (impl_AlarmOk.calls k1 _ _ ((rd_T29 a d).f0) ((rd_T29 a d).f1) ((rd_T29 a d).f2) ((rd_T29 a d).f3) true _ ?side1 ?side2 A7.out).mono ?_
     (case side1 => exact cp_ ((Kd.C_below y.out x.out)))
     (case side2 => exact z.out)
     rintro e wb ⟨rfl, hb⟩
     refine ⟨_, rfl, ?_⟩
     replace b := bk2_ b hb
     replace c := bk2_ c hb
     replace x := st_ x hb
     (try clear hb)
     (try clear hk)
     refine ho_ hK (f4_ c.out (e2_ b.out)) (fun q => ?_)
     iterate 3 refine p_ A ?_
     refine qw_ 7 (m_ 11 159) A ?_
     refine qt_ 5 (m_ 11 191) A P q ?_
     refine qt_ 8 (m_ 11 447) A P q ?_
     refine o1_ 6 (b_ 9 2) A (fun K hK => ?_)
     refine gs_ Tryz.func55 #[.slice j ((rd_T29 a d).f0).length l] ?_
     with_reducible refine (impl_Finger.calls k1 _ _ ((rd_T29 a d).f0) M _ ?side1 ?side2 A9.out).mono ?_
     (case side1 => exact cp_ ((Kd.C_below y.out x.out)))
     (case side2 => exact z.out)
     rintro e xb ⟨rfl, hb⟩
     refine ⟨_, rfl, ?_⟩
     replace b := bk2_ b hb
     replace c := bk2_ c hb
     replace x := st_ x hb
     (try clear hb)
     (try clear hk)
     refine ho_ hK (f4_ c.out (e2_ b.out)) (fun q => ?_)
     iterate 2 refine p_ A ?_
     refine done_ (done_of A.out (by kernel_rfl)) ?_
     try go_wp2
     go_ret
     exact an_ (hs_ x.out)
    obtain rfl := Option.some.inj H
    obtain ⟨D, E⟩ : 0 ≤ (d : Int) ∧ d < (a.length : Int) := pq_
    obtain ⟨G, j, l, N, i, m, o, p, s, t⟩ := at_T29 O.out d D E
    cases N
    replace i := c4_ x i m o p; clear m o p; obtain ⟨i, m, o, p⟩ := i
    have y := Aside0.mk t
    have z := Aside0.mk s
    clear t s
    replace D := eq_true D; replace E := eq_true E
    try go_wp2_with (first | ((with_reducible refine gd_ 4 rfl ?_); refine bv_ 4 #[.slice none 0 0, .int .i64 0, .int .i64 0, .string (⟨#[]⟩ : ByteArray)] 29 ?_; intro g hg Pa I hb; have c := Aside0.mk (I); have L := gq_ hg x; replace x := st_ x hb; have V := Ge_.mk L.out; obtain ⟨u, v, b⟩ := nb_ b hg hb; clear hb I hg; have Qa := v.out; have Ra := u.out; obtain ⟨Sa, Ta, Ua, Va, Wa, Xa, Ya, Za⟩ := bc4_ c.out))
    generalize hw_ : ((((Pa.setCell ⟨g, 0, none⟩ (.slice j ((rd_T29 a d).f0).length l)).setCell ⟨g, 1, none⟩ (.int .i64 ((rd_T29 a d).f1))).setCell ⟨g, 2, none⟩ (.int .i64 ((rd_T29 a d).f2))).setCell ⟨g, 3, none⟩ (.string ((rd_T29 a d).f3))) = ea
    have Q : Aside0 (ea.heap[F]? = some (.cells #[.int .i64 B, .slice (some G) a.length J] 80 (0, 0))) := ⟨by rw [← hw_]; exact (bq_ b.out)⟩
    have R : Aside0 (ea.heap[g]? = some (.cells #[.slice j ((rd_T29 a d).f0).length l, .int .i64 ((rd_T29 a d).f1), .int .i64 ((rd_T29 a d).f2), .string ((rd_T29 a d).f3)] 29 (0, 0))) := ⟨by rw [← hw_]; exact (bp_ c.out)⟩
    have T : Aside0 (Below w.heap.size w ea) := ⟨by rw [← hw_]; exact (hs_ x.out)⟩
    clear hw_
    (try clear b)
    (try clear c)
    (try clear x)
    have b := Q
    have c := R
    have x := T
    clear Q R T
    replace b := Aside0.mk (blk_drew b.out)
    replace c := Aside0.mk (blk_drew c.out)
    replace x := Aside0.mk (bd_ x.out)
    refine start_ (n := 11) (S := fun w' => w'.cell? ⟨g, 0, none⟩ = some (.slice j ((rd_T29 a d).f0).length l) ∧ w'.cell? ⟨g, 1, none⟩ = some (.int .i64 ((rd_T29 a d).f1)) ∧ w'.cell? ⟨g, 2, none⟩ = some (.int .i64 ((rd_T29 a d).f2)) ∧ w'.cell? ⟨g, 3, none⟩ = some (.string ((rd_T29 a d).f3))) (ds := []) (b_ 0 11) (by kernel_rfl) rfl rfl ⟨bx_ c.out 0, bx_ c.out 1, bx_ c.out 2, bx_ c.out 3⟩ (fun q => ?_); refine with_tabW impl_ChainOk.tab4 impl_ChainOk.bits4 (fun A P => ?_)
    generalize ea.drew = yb at b c x q ⊢
    refine t0_ A P q ?_
    refine o1_ 1 (b_ 2 9) A (fun K hK => ?_)
    refine gs_ Tryz.func106 #[.agg #[.slice j ((rd_T29 a d).f0).length l, .int .i64 ((rd_T29 a d).f1), .int .i64 ((rd_T29 a d).f2), .string ((rd_T29 a d).f3)]] ?_
    with_reducible refine (impl_AlarmOk.calls k1 _ _ ((rd_T29 a d).f0) ((rd_T29 a d).f1) ((rd_T29 a d).f2) ((rd_T29 a d).f3) false _ ?side1 ?side2 A7.out).mono ?_
    (case side1 => exact cp_ ((Kd.C_below y.out x.out)))
    (case side2 => exact z.out)
    rintro e zb ⟨rfl, hb⟩
    refine ⟨_, rfl, ?_⟩
    replace b := bk2_ b hb
    replace c := bk2_ c hb
    replace x := st_ x hb
    (try clear hb)
    (try clear hk)
    refine ho_ hK (e4_ c.out) (fun q => ?_)
    iterate 2 refine p_ A ?_
    iterate 6 refine v_ A ?_
    refine p_ A ?_
    refine done_ (done_of A.out (by kernel_rfl)) ?_
    try go_wp2
    go_ret
    exact an_ (hs_ x.out)
   have oa : decide (d < (a.length : Int)) = false := decide_eq_false c4
   clear c4
   replace H := ie_ H; rcases H with ⟨Z, H⟩ | ⟨Z, H⟩
   ·
    have ja : decide (0 < (a.length : Int)) = true := decide_eq_true Z
    have ka : decide (0 < a.length) = true := decide_eq_true (by omega)
    clear Z
    replace H := bi_ H; obtain ⟨la, ab, H⟩ := H
    obtain rfl := Option.some.inj H
    obtain ⟨bb, cb, db, eb⟩ := bc2_ b.out
    go_wp2_with (first | (go_at_call 107; (with_reducible refine (impl_labelsApart.calls k1 _ _ a la _ ?side1 ?side2 ab.out).mono ?_); (case side1 => exact cp_ ((Kd.C_below O.out x.out))); (case side2 => exact fa.out); rintro e Ab ⟨rfl, hb⟩; replace b := bk2_ b hb; replace x := st_ x hb; (try clear hb); (try clear hk)))
    go_ret
    exact an_ (hs_ x.out)
   have ja : decide (0 < (a.length : Int)) = false := decide_eq_false Z
   have ka : decide (0 < a.length) = false := decide_eq_false (by omega)
   clear Z
   obtain rfl := Option.some.inj H
   obtain ⟨fb, gb, ib, jb⟩ := bc2_ b.out
   go_wp2
   go_ret
   exact an_ (hs_ x.out)
def impl_PartOk.l0 : Nat → Int → Int → List (S80) → Int → Int → Int → Int → List (S80) → Option (Bool)
 | 0, _, _, _, _, _, _, _, _ => none
 | k + 1, x1, x2, x10, x11, x12, x1044000, x1044001, x1044002 => if x12 < x11 then (if 0 ≤ x12 then (if x12 < (x10.length : Int) then ((impl_ChainOk.f k ((rd_T80 x10 x12).f0) ((rd_T80 x10 x12).f1)).bind fun t1047 => (if t1047 = true then ((impl_PartOf.f ((rd_T80 x10 x12).f0) x2).bind fun t1048 => (if t1048 = x1 then (if x12 > 0 then (if 0 ≤ (wrap64 (x12 - 1)) then (if (wrap64 (x12 - 1)) < (x1044002.length : Int) then (if ((rd_T80 x1044002 (wrap64 (x12 - 1))).f0) ≥ ((rd_T80 x10 x12).f0) then (some false) else (impl_PartOk.l0 k x1 x2 x10 x11 (wrap64 (x12 + 1)) x1044000 x1044001 x1044002)) else (none)) else (none)) else (impl_PartOk.l0 k x1 x2 x10 x11 (wrap64 (x12 + 1)) x1044000 x1044001 x1044002)) else (some false))) else (some false))) else (none)) else (none)) else ((impl_in.f x1044000 (-1) 4).bind fun t1044 => (if t1044 = true then (some (decide (x1044001 ≥ 0))) else (some false)))
def impl_PartOk.f (k : Nat) (a0_0 : Int) (a0_1 : Int) (l0_2 : List (S80)) (a1 : Int) (a2 : Int) : Option (Bool) := impl_PartOk.l0 k a1 a2 l0_2 (l0_2.length : Int) 0 a0_0 a0_1 l0_2
def impl_PartOk.T4 : Bool × List (List Nat × List Nat) := (true, [([], []), ([0], [0]), ([1], [1]), ([2, 1], [2]), ([3], [3]), ([4, 3], [3, 4]), ([3], [3]), ([5, 6, 3, 3], [3, 5, 6]), ([3], [3]), ([7, 8, 3], [3, 7, 8]), ([3, 9], [3, 9]), ([10, 7], [10]), ([11], [11]), ([12, 11], [11, 12]), ([13, 11, 11], [11, 13]), ([14], [14]), ([15, 14], [14, 15]), ([14], [14]), ([17, 14], [14, 17]), ([16, 18, 14], [14, 16, 18]), ([19, 14], [14, 19]), ([20, 14], [14, 20]), ([14], [14]), ([22, 14], [14, 22]), ([21, 23, 14], [14, 21, 23]), ([14, 24, 11], [11, 14, 24]), ([11, 25], [11, 25])])
def impl_PartOk.B4 : List Nat := [0, 1, 3, 7, 15, 31, 15, 127, 15, 511, 1023, 2047, 4095, 8191, 16383, 32767, 65535, 32767, 163839, 524287, 1048575, 2097151, 32767, 4227071, 16777215, 33554431, 67108863]
theorem impl_PartOk.tab4 : rtab .any (opsOf Tryz.f21 4) = impl_PartOk.T4 := by kernel_rfl
theorem impl_PartOk.bits4 : waitsOk impl_PartOk.T4.2 impl_PartOk.B4 = true := by kernel_rfl
theorem impl_PartOk.calls (k : Nat) (L : Int) (O : Int) (ka : Option Addr) (U : Nat) (d : List (S80)) (a1 : Int) (a2 : Int) (r : Bool) (w : World) (oa : Kd.C k80 w ka d.length d) (pa : d.length ≤ U) (h : impl_PartOk.f k L O d a1 a2 = some r) :
  Calls Tryz.prog 21 #[.agg #[.int .i64 L, .int .i64 O, .slice ka d.length U], .int .i64 a1, .int .i64 a2] w fun e w' => e = .returned (.bool r) ∧ Below w.heap.size w w' := by
 have hu26 := Tryz.underlying26
 have hu80 := Tryz.underlying80
 have W := Aside0.mk oa
 have Na := Aside0.mk pa
 clear oa pa
 have A := Aside0.mk (Below.refl w.heap.size w)
 have H : (impl_PartOk.l0 k a1 a2 d (d.length : Int) 0 L O d) = some r := h
 clear h
 have H' := Aside0.mk H
 clear H
 go_enter Tryz.func21, Tryz.ntmps21
 go_wp2_with (first | ((with_reducible refine gd_ 3 rfl ?_); refine bv_ 3 #[.int .i64 L, .int .i64 O, .slice ka d.length U] 26 ?_; intro J hg w4 M hb; have a := Aside0.mk (M); have ua := gq_ hg A; replace A := st_ A hb; have La := Ge_.mk ua.out; clear hb M hg; obtain ⟨Qb, Rb, Sb, Tb, Ub, Vb⟩ := bc3_ a.out))
 go_loopg [12] k (fun kq Oa w' => ∃ (c : Int), Oa = .int .i64 c ∧ Aside0 (impl_PartOk.l0 kq a1 a2 d (d.length : Int) c L O d = some r) ∧ Aside0 (kq ≤ k) ∧ Aside0 (w'.heap[J]? = some (.cells #[.int .i64 L, .int .i64 O, (.slice ka d.length U)] 26 (0, 0))) ∧ Aside0 (Below w.heap.size w w'))
 case atStart => exact ⟨(0), rs_, H', ⟨Nat.le_refl _⟩, ⟨bq_ a.out⟩, ⟨hs_ A.out⟩⟩
 case round =>
  clear H'
  obtain ⟨c, rfl, HA, va, a, A⟩ := hrel
  cases gk with
  | zero => exact absurd HA.out (by simp [impl_PartOk.l0])
  | succ k1 =>
   have H := HA.out
   clear HA
   simp only [impl_PartOk.l0] at H
   replace H := ie_ H; rcases H with ⟨c6, H⟩ | ⟨c6, H⟩
   ·
    have Ia := decide_eq_true c6
    clear c6
    replace H := id_ H; obtain ⟨Wb, H⟩ := H
    replace H := id_ H; obtain ⟨Xb, H⟩ := H
    replace H := bi_ H; obtain ⟨Qa, A9, H⟩ := H
    replace H := ib_ H; rcases H with ⟨rfl, H⟩ | ⟨rfl, H⟩
    ·
     replace H := bi_ H; obtain ⟨V, qa, H⟩ := H
     replace H := ie_ H; rcases H with ⟨ma, H⟩ | ⟨ma, H⟩
     ·
      have Ca : (V == a1) = true := beq_iff_eq.mpr ma
      have Da : (V != a1) = false := bne_eq_false_iff_eq.mpr ma
      clear ma
      replace H := ie_ H; rcases H with ⟨ra, H⟩ | ⟨ra, H⟩
      ·
       have Ea : decide (0 < c) = true := decide_eq_true ra
       clear ra
       obtain ⟨I, ca⟩ : ∃ j_ : Int, (wrap64 (c - 1)) = j_ := ⟨_, rfl⟩
       replace H : (if 0 ≤ (I) then (if (I) < (d.length : Int) then (if ((rd_T80 d (I)).f0) ≥ ((rd_T80 d c).f0) then (some false) else (impl_PartOk.l0 k1 a1 a2 d (d.length : Int) (wrap64 (c + 1)) L O d)) else (none)) else (none)) = some r := by first | (rw [ca] at H; exact H) | (simp only [ca] at H ⊢; exact H)
       (try rw [ca] at A9)
       (try rw [ca] at qa)
       have Ma : (IntKind.i64.wrap (c - 1)) = I := (i64_w _).trans ca
       replace H := id_ H; obtain ⟨Ra, H⟩ := H
       replace H := id_ H; obtain ⟨Sa, H⟩ := H
       replace H := ie_ H; rcases H with ⟨sa, H⟩ | ⟨sa, H⟩
       ·
        have Fa : decide (((rd_T80 d c).f0) ≤ ((rd_T80 d (I)).f0)) = true := decide_eq_true sa
        clear sa
        obtain rfl := Option.some.inj H
        obtain ⟨D, E⟩ : 0 ≤ (c : Int) ∧ c < (d.length : Int) := pq_
        obtain ⟨t, i, j, R, g, o, q, s⟩ := at_T80 W.out c D E
        cases R
        replace g := c2_ A g o; clear o; obtain ⟨g, o⟩ := g
        have F := Aside0.mk s
        have G := Aside0.mk q
        clear s q
        replace D := eq_true D; replace E := eq_true E
        try go_wp2_with (first | ((with_reducible refine gd_ 8 rfl ?_); refine bv_ 8 #[.int .i64 0, .slice none 0 0] 80 ?_; intro l hg Ta M hb; have b := Aside0.mk (M); have N := gq_ hg A; replace A := st_ A hb; have ea := Ge_.mk N.out; obtain ⟨u, v, a⟩ := nb_ a hg hb; clear hb M hg; have Ua := v.out; have Va := u.out; obtain ⟨Wa, Xa, Ya, Za⟩ := bc2_ b.out))
        generalize hw_ : ((Ta.setCell ⟨l, 0, none⟩ (.int .i64 ((rd_T80 d c).f0))).setCell ⟨l, 1, none⟩ (.slice i ((rd_T80 d c).f1).length j)) = wa
        have Z : Aside0 (wa.heap[J]? = some (.cells #[.int .i64 L, .int .i64 O, .slice (some t) d.length U] 26 (0, 0))) := ⟨by rw [← hw_]; exact (bq_ a.out)⟩
        have aa : Aside0 (wa.heap[l]? = some (.cells #[.int .i64 ((rd_T80 d c).f0), .slice i ((rd_T80 d c).f1).length j] 80 (0, 0))) := ⟨by rw [← hw_]; exact (bp_ b.out)⟩
        have ba : Aside0 (Below w.heap.size w wa) := ⟨by rw [← hw_]; exact (hs_ A.out)⟩
        clear hw_
        (try clear a)
        (try clear b)
        (try clear A)
        have a := Z
        have b := aa
        have A := ba
        clear Z aa ba
        replace a := Aside0.mk (blk_drew a.out)
        replace b := Aside0.mk (blk_drew b.out)
        replace A := Aside0.mk (bd_ A.out)
        obtain ⟨X, Y⟩ : 0 ≤ ((I) : Int) ∧ (I) < (d.length : Int) := pq_
        obtain ⟨ha, fa, ga, ja, x, B, P, Q⟩ := at_T80 W.out (I) X Y
        have y := B
        have z := x
        obtain rfl : t = ha := (by injection ja)
        replace x := c2_ A x B; clear B; obtain ⟨x, B⟩ := x
        have da := Aside0.mk Q
        have na := Aside0.mk P
        clear Q P
        replace X := eq_true X; replace Y := eq_true Y
        refine start_ (n := 27) (S := fun w' => w'.cell? ⟨l, 0, none⟩ = some (.int .i64 ((rd_T80 d c).f0)) ∧ w'.cell? ⟨l, 1, none⟩ = some (.slice i ((rd_T80 d c).f1).length j) ∧ w'.cell? ⟨J, 0, none⟩ = some (.int .i64 L) ∧ w'.cell? ⟨J, 1, none⟩ = some (.int .i64 O) ∧ w'.cell? ⟨J, 2, none⟩ = some (.slice (some t) d.length U) ∧ w'.cell? (t.add (((I)).toNat * 2)) = some (.int .i64 ((rd_T80 d (I)).f0)) ∧ w'.cell? ⟨(t.add (((I)).toNat * 2)).block, (t.add (((I)).toNat * 2)).off + 1, none⟩ = some (.slice fa ((rd_T80 d (I)).f1).length ga)) (ds := []) (b_ 0 27) (by kernel_rfl) rfl rfl ⟨bx_ b.out 0, bx_ b.out 1, bx_ a.out 0, bx_ a.out 1, bx_ a.out 2, ((A.out.cell (World.block_lt_of_cell? w _ z)).trans z), ((A.out.cell (World.block_lt_of_cell? w _ y)).trans y)⟩ (fun p => ?_); refine with_tabW impl_PartOk.tab4 impl_PartOk.bits4 (fun m T => ?_)
        generalize wa.drew = Yb at a b A da x B p ⊢
        refine t0_ m T p ?_
        refine o1_ 1 (b_ 2 25) m (fun K hK => ?_)
        refine gs_ Tryz.func73 #[.agg #[.int .i64 ((rd_T80 d c).f0), .slice i ((rd_T80 d c).f1).length j]] ?_
        with_reducible refine (impl_ChainOk.calls k1 ((rd_T80 d c).f0) _ _ ((rd_T80 d c).f1) true _ ?side1 ?side2 A9.out).mono ?_
        (case side1 => exact cp_ ((Kd.C_below F.out A.out)))
        (case side2 => exact G.out)
        rintro e Zb ⟨rfl, hb⟩
        refine ⟨_, rfl, ?_⟩
        replace a := bk2_ a hb
        replace b := bk2_ b hb
        replace A := st_ A hb
        (try clear hb)
        (try clear hk)
        refine ho_ hK ⟨bx_ b.out 0, bx_ b.out 1, bx_ a.out 0, bx_ a.out 1, bx_ a.out 2, ((A.out.cell (World.block_lt_of_cell? w _ z)).trans z), ((A.out.cell (World.block_lt_of_cell? w _ y)).trans y)⟩ (fun p => ?_)
        iterate 3 refine p_ m ?_
        refine qw_ 6 (m_ 27 95) m ?_
        refine qw_ 8 (m_ 27 351) m ?_
        refine qt_ 5 (m_ 27 383) m T p ?_
        refine o1_ 7 (b_ 9 18) m (fun K hK => ?_)
        refine gs_ Tryz.func74 #[.int .i64 ((rd_T80 d c).f0), .int .i64 a2] ?_
        with_reducible refine (impl_PartOf.calls ((rd_T80 d c).f0) a2 V _ qa.out).mono ?_
        rintro e w' ⟨rfl, ⟨nd, rfl⟩⟩
        refine ⟨_, rfl, ?_⟩
        refine ho_ hK ⟨bx_ b.out 0, bx_ b.out 1, bx_ a.out 0, bx_ a.out 1, bx_ a.out 2, ((A.out.cell (World.block_lt_of_cell? w _ z)).trans z), ((A.out.cell (World.block_lt_of_cell? w _ y)).trans y)⟩ (fun p => ?_)
        iterate 7 refine p_ m ?_
        refine qw_ 17 (m_ 27 196607) m ?_
        refine qw_ 18 (m_ 27 458751) m ?_
        refine qw_ 22 (m_ 27 4653055) m ?_
        refine qt_ 16 (m_ 27 4718591) m T p ?_
        refine qw_ 19 (m_ 27 5242879) m ?_
        refine qw_ 20 (m_ 27 6291455) m ?_
        refine qt_ 21 (b_ 23 4) m T p ?_
        refine t0_ m T p ?_
        iterate 3 refine p_ m ?_
        refine done_ (done_of m.out (by kernel_rfl)) ?_
        try go_wp2
        go_ret
        exact ⟨by first | rfl | (simp [errW_none, errW_some] <;> rfl) | (simp only [← ca]; first | rfl | (simp [errW_none, errW_some] <;> rfl)) | (simp [*, errW_none, errW_some] <;> rfl), hs_ A.out⟩
       have Fa : decide (((rd_T80 d c).f0) ≤ ((rd_T80 d (I)).f0)) = false := decide_eq_false sa
       clear sa
       have H' := Aside0.mk H
       clear H
       obtain ⟨D, E⟩ : 0 ≤ (c : Int) ∧ c < (d.length : Int) := pq_
       obtain ⟨t, i, j, R, g, o, q, s⟩ := at_T80 W.out c D E
       cases R
       replace g := c2_ A g o; clear o; obtain ⟨g, o⟩ := g
       have F := Aside0.mk s
       have G := Aside0.mk q
       clear s q
       replace D := eq_true D; replace E := eq_true E
       try go_wp2_with (first | ((with_reducible refine gd_ 8 rfl ?_); refine bv_ 8 #[.int .i64 0, .slice none 0 0] 80 ?_; intro l hg ab M hb; have b := Aside0.mk (M); have N := gq_ hg A; replace A := st_ A hb; have ea := Ge_.mk N.out; obtain ⟨u, v, a⟩ := nb_ a hg hb; clear hb M hg; have bb := v.out; have cb := u.out; obtain ⟨db, eb, fb, gb⟩ := bc2_ b.out))
       generalize hw_ : ((ab.setCell ⟨l, 0, none⟩ (.int .i64 ((rd_T80 d c).f0))).setCell ⟨l, 1, none⟩ (.slice i ((rd_T80 d c).f1).length j)) = xa
       have Z : Aside0 (xa.heap[J]? = some (.cells #[.int .i64 L, .int .i64 O, .slice (some t) d.length U] 26 (0, 0))) := ⟨by rw [← hw_]; exact (bq_ a.out)⟩
       have aa : Aside0 (xa.heap[l]? = some (.cells #[.int .i64 ((rd_T80 d c).f0), .slice i ((rd_T80 d c).f1).length j] 80 (0, 0))) := ⟨by rw [← hw_]; exact (bp_ b.out)⟩
       have ba : Aside0 (Below w.heap.size w xa) := ⟨by rw [← hw_]; exact (hs_ A.out)⟩
       clear hw_
       (try clear a)
       (try clear b)
       (try clear A)
       have a := Z
       have b := aa
       have A := ba
       clear Z aa ba
       replace a := Aside0.mk (blk_drew a.out)
       replace b := Aside0.mk (blk_drew b.out)
       replace A := Aside0.mk (bd_ A.out)
       obtain ⟨X, Y⟩ : 0 ≤ ((I) : Int) ∧ (I) < (d.length : Int) := pq_
       obtain ⟨ha, fa, ga, ja, x, B, P, Q⟩ := at_T80 W.out (I) X Y
       have y := B
       have z := x
       obtain rfl : t = ha := (by injection ja)
       replace x := c2_ A x B; clear B; obtain ⟨x, B⟩ := x
       have da := Aside0.mk Q
       have na := Aside0.mk P
       clear Q P
       replace X := eq_true X; replace Y := eq_true Y
       refine start_ (n := 27) (S := fun w' => w'.cell? ⟨l, 0, none⟩ = some (.int .i64 ((rd_T80 d c).f0)) ∧ w'.cell? ⟨l, 1, none⟩ = some (.slice i ((rd_T80 d c).f1).length j) ∧ w'.cell? ⟨J, 0, none⟩ = some (.int .i64 L) ∧ w'.cell? ⟨J, 1, none⟩ = some (.int .i64 O) ∧ w'.cell? ⟨J, 2, none⟩ = some (.slice (some t) d.length U) ∧ w'.cell? (t.add (((I)).toNat * 2)) = some (.int .i64 ((rd_T80 d (I)).f0)) ∧ w'.cell? ⟨(t.add (((I)).toNat * 2)).block, (t.add (((I)).toNat * 2)).off + 1, none⟩ = some (.slice fa ((rd_T80 d (I)).f1).length ga)) (ds := []) (b_ 0 27) (by kernel_rfl) rfl rfl ⟨bx_ b.out 0, bx_ b.out 1, bx_ a.out 0, bx_ a.out 1, bx_ a.out 2, ((A.out.cell (World.block_lt_of_cell? w _ z)).trans z), ((A.out.cell (World.block_lt_of_cell? w _ y)).trans y)⟩ (fun p => ?_); refine with_tabW impl_PartOk.tab4 impl_PartOk.bits4 (fun m T => ?_)
       generalize xa.drew = ac at a b A da x B p ⊢
       refine t0_ m T p ?_
       refine o1_ 1 (b_ 2 25) m (fun K hK => ?_)
       refine gs_ Tryz.func73 #[.agg #[.int .i64 ((rd_T80 d c).f0), .slice i ((rd_T80 d c).f1).length j]] ?_
       with_reducible refine (impl_ChainOk.calls k1 ((rd_T80 d c).f0) _ _ ((rd_T80 d c).f1) true _ ?side1 ?side2 A9.out).mono ?_
       (case side1 => exact cp_ ((Kd.C_below F.out A.out)))
       (case side2 => exact G.out)
       rintro e bc ⟨rfl, hb⟩
       refine ⟨_, rfl, ?_⟩
       replace a := bk2_ a hb
       replace b := bk2_ b hb
       replace A := st_ A hb
       (try clear hb)
       (try clear hk)
       refine ho_ hK ⟨bx_ b.out 0, bx_ b.out 1, bx_ a.out 0, bx_ a.out 1, bx_ a.out 2, ((A.out.cell (World.block_lt_of_cell? w _ z)).trans z), ((A.out.cell (World.block_lt_of_cell? w _ y)).trans y)⟩ (fun p => ?_)
       iterate 3 refine p_ m ?_
       refine qw_ 6 (m_ 27 95) m ?_
       refine qw_ 8 (m_ 27 351) m ?_
       refine qt_ 5 (m_ 27 383) m T p ?_
       refine o1_ 7 (b_ 9 18) m (fun K hK => ?_)
       refine gs_ Tryz.func74 #[.int .i64 ((rd_T80 d c).f0), .int .i64 a2] ?_
       with_reducible refine (impl_PartOf.calls ((rd_T80 d c).f0) a2 V _ qa.out).mono ?_
       rintro e w' ⟨rfl, ⟨nd, rfl⟩⟩
       refine ⟨_, rfl, ?_⟩
       refine ho_ hK ⟨bx_ b.out 0, bx_ b.out 1, bx_ a.out 0, bx_ a.out 1, bx_ a.out 2, ((A.out.cell (World.block_lt_of_cell? w _ z)).trans z), ((A.out.cell (World.block_lt_of_cell? w _ y)).trans y)⟩ (fun p => ?_)
       iterate 7 refine p_ m ?_
       refine qw_ 17 (m_ 27 196607) m ?_
       refine qw_ 18 (m_ 27 458751) m ?_
       refine qw_ 22 (m_ 27 4653055) m ?_
       refine qt_ 16 (m_ 27 4718591) m T p ?_
       refine qw_ 19 (m_ 27 5242879) m ?_
       refine qw_ 20 (m_ 27 6291455) m ?_
       refine qt_ 21 (b_ 23 4) m T p ?_
       refine t0_ m T p ?_
       iterate 3 refine p_ m ?_
       refine done_ (done_of m.out (by kernel_rfl)) ?_
       try go_wp2
       go_roundg k1
       case measure => have := va.out; omega
       case rel => exact ⟨(wrap64 (c + 1)), rs_, H', ⟨by have := va.out; omega⟩, ⟨bq_ a.out⟩, ⟨hs_ A.out⟩⟩
      have Ea : decide (0 < c) = false := decide_eq_false ra
      clear ra
      have H' := Aside0.mk H
      clear H
      obtain ⟨D, E⟩ : 0 ≤ (c : Int) ∧ c < (d.length : Int) := pq_
      obtain ⟨t, i, j, R, g, o, q, s⟩ := at_T80 W.out c D E
      cases R
      replace g := c2_ A g o; clear o; obtain ⟨g, o⟩ := g
      have F := Aside0.mk s
      have G := Aside0.mk q
      clear s q
      replace D := eq_true D; replace E := eq_true E
      try go_wp2_with (first | ((with_reducible refine gd_ 8 rfl ?_); refine bv_ 8 #[.int .i64 0, .slice none 0 0] 80 ?_; intro l hg ib M hb; have b := Aside0.mk (M); have N := gq_ hg A; replace A := st_ A hb; have ea := Ge_.mk N.out; obtain ⟨u, v, a⟩ := nb_ a hg hb; clear hb M hg; have jb := v.out; have kb := u.out; obtain ⟨lb, mb, nb, ob⟩ := bc2_ b.out))
      generalize hw_ : ((ib.setCell ⟨l, 0, none⟩ (.int .i64 ((rd_T80 d c).f0))).setCell ⟨l, 1, none⟩ (.slice i ((rd_T80 d c).f1).length j)) = ya
      have Z : Aside0 (ya.heap[J]? = some (.cells #[.int .i64 L, .int .i64 O, .slice (some t) d.length U] 26 (0, 0))) := ⟨by rw [← hw_]; exact (bq_ a.out)⟩
      have aa : Aside0 (ya.heap[l]? = some (.cells #[.int .i64 ((rd_T80 d c).f0), .slice i ((rd_T80 d c).f1).length j] 80 (0, 0))) := ⟨by rw [← hw_]; exact (bp_ b.out)⟩
      have ba : Aside0 (Below w.heap.size w ya) := ⟨by rw [← hw_]; exact (hs_ A.out)⟩
      clear hw_
      (try clear a)
      (try clear b)
      (try clear A)
      have a := Z
      have b := aa
      have A := ba
      clear Z aa ba
      replace a := Aside0.mk (blk_drew a.out)
      replace b := Aside0.mk (blk_drew b.out)
      replace A := Aside0.mk (bd_ A.out)
      refine start_ (n := 27) (S := fun w' => w'.cell? ⟨l, 0, none⟩ = some (.int .i64 ((rd_T80 d c).f0)) ∧ w'.cell? ⟨l, 1, none⟩ = some (.slice i ((rd_T80 d c).f1).length j)) (ds := []) (b_ 0 27) (by kernel_rfl) rfl rfl ⟨bx_ b.out 0, bx_ b.out 1⟩ (fun p => ?_); refine with_tabW impl_PartOk.tab4 impl_PartOk.bits4 (fun m T => ?_)
      generalize ya.drew = cc at a b A p ⊢
      refine t0_ m T p ?_
      refine o1_ 1 (b_ 2 25) m (fun K hK => ?_)
      refine gs_ Tryz.func73 #[.agg #[.int .i64 ((rd_T80 d c).f0), .slice i ((rd_T80 d c).f1).length j]] ?_
      with_reducible refine (impl_ChainOk.calls k1 ((rd_T80 d c).f0) _ _ ((rd_T80 d c).f1) true _ ?side1 ?side2 A9.out).mono ?_
      (case side1 => exact cp_ ((Kd.C_below F.out A.out)))
      (case side2 => exact G.out)
      rintro e dc ⟨rfl, hb⟩
      refine ⟨_, rfl, ?_⟩
      replace a := bk2_ a hb
      replace b := bk2_ b hb
      replace A := st_ A hb
      (try clear hb)
      (try clear hk)
      refine ho_ hK (e2_ b.out) (fun p => ?_)
      iterate 3 refine p_ m ?_
      refine qw_ 6 (m_ 27 95) m ?_
      refine qw_ 8 (m_ 27 351) m ?_
      refine qt_ 5 (m_ 27 383) m T p ?_
      refine o1_ 7 (b_ 9 18) m (fun K hK => ?_)
      refine gs_ Tryz.func74 #[.int .i64 ((rd_T80 d c).f0), .int .i64 a2] ?_
      with_reducible refine (impl_PartOf.calls ((rd_T80 d c).f0) a2 V _ qa.out).mono ?_
      rintro e w' ⟨rfl, ⟨nd, rfl⟩⟩
      refine ⟨_, rfl, ?_⟩
      refine ho_ hK (e2_ b.out) (fun p => ?_)
      iterate 6 refine p_ m ?_
      iterate 10 refine v_ m ?_
      iterate 2 refine p_ m ?_
      refine done_ (done_of m.out (by kernel_rfl)) ?_
      try go_wp2
      go_roundg k1
      case measure => have := va.out; omega
      case rel => exact ⟨(wrap64 (c + 1)), rs_, H', ⟨by have := va.out; omega⟩, ⟨bq_ a.out⟩, ⟨hs_ A.out⟩⟩
     have Ca : (V == a1) = false := beq_eq_false_iff_ne.mpr ma
     have Da : (V != a1) = true := bne_iff_ne.mpr ma
     obtain rfl := Option.some.inj H
     obtain ⟨D, E⟩ : 0 ≤ (c : Int) ∧ c < (d.length : Int) := pq_
     obtain ⟨t, i, j, R, g, o, q, s⟩ := at_T80 W.out c D E
     cases R
     replace g := c2_ A g o; clear o; obtain ⟨g, o⟩ := g
     have F := Aside0.mk s
     have G := Aside0.mk q
     clear s q
     replace D := eq_true D; replace E := eq_true E
     try go_wp2_with (first | ((with_reducible refine gd_ 8 rfl ?_); refine bv_ 8 #[.int .i64 0, .slice none 0 0] 80 ?_; intro l hg pb M hb; have b := Aside0.mk (M); have N := gq_ hg A; replace A := st_ A hb; have ea := Ge_.mk N.out; obtain ⟨u, v, a⟩ := nb_ a hg hb; clear hb M hg; have qb := v.out; have rb := u.out; obtain ⟨sb, tb, ub, vb⟩ := bc2_ b.out))
     generalize hw_ : ((pb.setCell ⟨l, 0, none⟩ (.int .i64 ((rd_T80 d c).f0))).setCell ⟨l, 1, none⟩ (.slice i ((rd_T80 d c).f1).length j)) = za
     have Z : Aside0 (za.heap[J]? = some (.cells #[.int .i64 L, .int .i64 O, .slice (some t) d.length U] 26 (0, 0))) := ⟨by rw [← hw_]; exact (bq_ a.out)⟩
     have aa : Aside0 (za.heap[l]? = some (.cells #[.int .i64 ((rd_T80 d c).f0), .slice i ((rd_T80 d c).f1).length j] 80 (0, 0))) := ⟨by rw [← hw_]; exact (bp_ b.out)⟩
     have ba : Aside0 (Below w.heap.size w za) := ⟨by rw [← hw_]; exact (hs_ A.out)⟩
     clear hw_
     (try clear a)
     (try clear b)
     (try clear A)
     have a := Z
     have b := aa
     have A := ba
     clear Z aa ba
     replace a := Aside0.mk (blk_drew a.out)
     replace b := Aside0.mk (blk_drew b.out)
     replace A := Aside0.mk (bd_ A.out)
     refine start_ (n := 27) (S := fun w' => w'.cell? ⟨l, 0, none⟩ = some (.int .i64 ((rd_T80 d c).f0)) ∧ w'.cell? ⟨l, 1, none⟩ = some (.slice i ((rd_T80 d c).f1).length j)) (ds := []) (b_ 0 27) (by kernel_rfl) rfl rfl ⟨bx_ b.out 0, bx_ b.out 1⟩ (fun p => ?_); refine with_tabW impl_PartOk.tab4 impl_PartOk.bits4 (fun m T => ?_)
     generalize za.drew = ec at a b A p ⊢
     refine t0_ m T p ?_
     refine o1_ 1 (b_ 2 25) m (fun K hK => ?_)
     refine gs_ Tryz.func73 #[.agg #[.int .i64 ((rd_T80 d c).f0), .slice i ((rd_T80 d c).f1).length j]] ?_
     with_reducible refine (impl_ChainOk.calls k1 ((rd_T80 d c).f0) _ _ ((rd_T80 d c).f1) true _ ?side1 ?side2 A9.out).mono ?_
     (case side1 => exact cp_ ((Kd.C_below F.out A.out)))
     (case side2 => exact G.out)
     rintro e fc ⟨rfl, hb⟩
     refine ⟨_, rfl, ?_⟩
     replace a := bk2_ a hb
     replace b := bk2_ b hb
     replace A := st_ A hb
     (try clear hb)
     (try clear hk)
     refine ho_ hK (e2_ b.out) (fun p => ?_)
     iterate 3 refine p_ m ?_
     refine qw_ 6 (m_ 27 95) m ?_
     refine qw_ 8 (m_ 27 351) m ?_
     refine qt_ 5 (m_ 27 383) m T p ?_
     refine o1_ 7 (b_ 9 18) m (fun K hK => ?_)
     refine gs_ Tryz.func74 #[.int .i64 ((rd_T80 d c).f0), .int .i64 a2] ?_
     with_reducible refine (impl_PartOf.calls ((rd_T80 d c).f0) a2 V _ qa.out).mono ?_
     rintro e w' ⟨rfl, ⟨nd, rfl⟩⟩
     refine ⟨_, rfl, ?_⟩
     refine ho_ hK (e2_ b.out) (fun p => ?_)
     iterate 3 refine p_ m ?_
     iterate 14 refine v_ m ?_
     refine p_ m ?_
     refine done_ (done_of m.out (by kernel_rfl)) ?_
     try go_wp2
     go_ret
     exact an_ (hs_ A.out)
    obtain rfl := Option.some.inj H
    obtain ⟨D, E⟩ : 0 ≤ (c : Int) ∧ c < (d.length : Int) := pq_
    obtain ⟨t, i, j, R, g, o, q, s⟩ := at_T80 W.out c D E
    cases R
    replace g := c2_ A g o; clear o; obtain ⟨g, o⟩ := g
    have F := Aside0.mk s
    have G := Aside0.mk q
    clear s q
    replace D := eq_true D; replace E := eq_true E
    try go_wp2_with (first | ((with_reducible refine gd_ 8 rfl ?_); refine bv_ 8 #[.int .i64 0, .slice none 0 0] 80 ?_; intro l hg wb M hb; have b := Aside0.mk (M); have N := gq_ hg A; replace A := st_ A hb; have ea := Ge_.mk N.out; obtain ⟨u, v, a⟩ := nb_ a hg hb; clear hb M hg; have xb := v.out; have yb := u.out; obtain ⟨zb, Ab, Bb, Cb⟩ := bc2_ b.out))
    generalize hw_ : ((wb.setCell ⟨l, 0, none⟩ (.int .i64 ((rd_T80 d c).f0))).setCell ⟨l, 1, none⟩ (.slice i ((rd_T80 d c).f1).length j)) = Aa
    have Z : Aside0 (Aa.heap[J]? = some (.cells #[.int .i64 L, .int .i64 O, .slice (some t) d.length U] 26 (0, 0))) := ⟨by rw [← hw_]; exact (bq_ a.out)⟩
    have aa : Aside0 (Aa.heap[l]? = some (.cells #[.int .i64 ((rd_T80 d c).f0), .slice i ((rd_T80 d c).f1).length j] 80 (0, 0))) := ⟨by rw [← hw_]; exact (bp_ b.out)⟩
    have ba : Aside0 (Below w.heap.size w Aa) := ⟨by rw [← hw_]; exact (hs_ A.out)⟩
    clear hw_
    (try clear a)
    (try clear b)
    (try clear A)
    have a := Z
    have b := aa
    have A := ba
    clear Z aa ba
    replace a := Aside0.mk (blk_drew a.out)
    replace b := Aside0.mk (blk_drew b.out)
    replace A := Aside0.mk (bd_ A.out)
    refine start_ (n := 27) (S := fun w' => w'.cell? ⟨l, 0, none⟩ = some (.int .i64 ((rd_T80 d c).f0)) ∧ w'.cell? ⟨l, 1, none⟩ = some (.slice i ((rd_T80 d c).f1).length j)) (ds := []) (b_ 0 27) (by kernel_rfl) rfl rfl ⟨bx_ b.out 0, bx_ b.out 1⟩ (fun p => ?_); refine with_tabW impl_PartOk.tab4 impl_PartOk.bits4 (fun m T => ?_)
    generalize Aa.drew = gc at a b A p ⊢
    refine t0_ m T p ?_
    refine o1_ 1 (b_ 2 25) m (fun K hK => ?_)
    refine gs_ Tryz.func73 #[.agg #[.int .i64 ((rd_T80 d c).f0), .slice i ((rd_T80 d c).f1).length j]] ?_
    with_reducible refine (impl_ChainOk.calls k1 ((rd_T80 d c).f0) _ _ ((rd_T80 d c).f1) false _ ?side1 ?side2 A9.out).mono ?_
    (case side1 => exact cp_ ((Kd.C_below F.out A.out)))
    (case side2 => exact G.out)
    rintro e hc ⟨rfl, hb⟩
    refine ⟨_, rfl, ?_⟩
    replace a := bk2_ a hb
    replace b := bk2_ b hb
    replace A := st_ A hb
    (try clear hb)
    (try clear hk)
    refine ho_ hK (e2_ b.out) (fun p => ?_)
    iterate 2 refine p_ m ?_
    iterate 6 refine v_ m ?_
    iterate 2 refine p_ m ?_
    iterate 14 refine v_ m ?_
    refine p_ m ?_
    refine done_ (done_of m.out (by kernel_rfl)) ?_
    try go_wp2
    go_ret
    exact an_ (hs_ A.out)
   have Ia : decide (c < (d.length : Int)) = false := decide_eq_false c6
   clear c6
   replace H := bi_ H; obtain ⟨Db, Ka, H⟩ := H
   replace H := ib_ H; rcases H with ⟨rfl, H⟩ | ⟨rfl, H⟩
   ·
    obtain rfl := Option.some.inj H
    obtain ⟨Eb, Fb, Gb, Hb, Ib, Jb⟩ := bc3_ a.out
    go_wp2_with (first | ((with_reducible refine gate_callee (f := 75) rfl ?_); refine gl_ (some 47) Tryz.func75 #[.int .i64 L, .int .i64 (-1), .int .i64 4] ?_; (with_reducible refine (impl_in.calls L (-1) 4 true _ Ka.out).mono ?_); rintro e w' ⟨rfl, ⟨nd, rfl⟩⟩; refine ⟨_, rfl, ?_⟩))
    go_ret
    exact an_ (hs_ A.out)
   obtain rfl := Option.some.inj H
   obtain ⟨Kb, Lb, Mb, Nb, Ob, Pb⟩ := bc3_ a.out
   go_wp2_with (first | ((with_reducible refine gate_callee (f := 75) rfl ?_); refine gl_ (some 47) Tryz.func75 #[.int .i64 L, .int .i64 (-1), .int .i64 4] ?_; (with_reducible refine (impl_in.calls L (-1) 4 false _ Ka.out).mono ?_); rintro e w' ⟨rfl, ⟨nd, rfl⟩⟩; refine ⟨_, rfl, ?_⟩))
   go_ret
   exact an_ (hs_ A.out)
def impl_StoreOk.l0 : Nat → List (S26) → List (S26) → Int → Int → Option (Bool)
 | 0, _, _, _, _ => none
 | k + 1, x0, x9, x10, x11 => if x11 < x10 then (if 0 ≤ x11 then (if x11 < (x9.length : Int) then ((impl_PartOk.f k ((rd_T26 x9 x11).f0) ((rd_T26 x9 x11).f1) ((rd_T26 x9 x11).f2) x11 (x0.length : Int)).bind fun t1438 => (if t1438 = true then (impl_StoreOk.l0 k x0 x9 x10 (wrap64 (x11 + 1))) else (some false))) else (none)) else (none)) else (some true)
def impl_StoreOk.f (k : Nat) (l0 : List (S26)) : Option (Bool) := (impl_in.f (l0.length : Int) 1 3).bind fun t1435 => (if t1435 = true then (impl_StoreOk.l0 k l0 l0 (l0.length : Int) 0) else (some false))
theorem impl_StoreOk.calls (k : Nat) (Z : Option Addr) (c0 : Nat) (l0 : List (S26)) (r : Bool) (w : World) (B : Kd.C k26 w Z l0.length l0) (D : l0.length ≤ c0) (h : impl_StoreOk.f k l0 = some r) :
  Calls Tryz.prog 32 #[.slice Z l0.length c0] w fun e w' => e = .returned (.bool r) ∧ Below w.heap.size w w' := by
 have hu26 := Tryz.underlying26
 have E := Aside0.mk B
 have fa := Aside0.mk D
 clear B D
 have s := Aside0.mk (Below.refl w.heap.size w)
 have H : ((impl_in.f (l0.length : Int) 1 3).bind fun x => (if x = true then (impl_StoreOk.l0 k l0 l0 (l0.length : Int) 0) else (some false))) = some r := h
 clear h
 replace H := bi_ H; obtain ⟨x, A2, H⟩ := H
 replace H := ib_ H; rcases H with ⟨rfl, H⟩ | ⟨rfl, H⟩
 ·
  have H' := Aside0.mk H
  clear H
  go_enter Tryz.func32, Tryz.ntmps32
  go_wp2_with (first | ((with_reducible refine gate_callee (f := 75) rfl ?_); refine gl_ (some 7) Tryz.func75 #[.int .i64 (l0.length : Int), .int .i64 1, .int .i64 3] ?_; (with_reducible refine (impl_in.calls (l0.length : Int) 1 3 true _ A2.out).mono ?_); rintro e w' ⟨rfl, ⟨nd, rfl⟩⟩; refine ⟨_, rfl, ?_⟩))
  go_loopg [11] k (fun kq J w' => ∃ (a : Int), J = .int .i64 a ∧ Aside0 (impl_StoreOk.l0 kq l0 l0 (l0.length : Int) a = some r) ∧ Aside0 (kq ≤ k) ∧ Aside0 (Below w.heap.size w w'))
  case atStart => exact ⟨(0), rs_, H', ⟨Nat.le_refl _⟩, ⟨hs_ s.out⟩⟩
  case round =>
   clear H'
   obtain ⟨a, rfl, K, F, s⟩ := hrel
   cases gk with
   | zero => exact absurd K.out (by simp [impl_StoreOk.l0])
   | succ L =>
    have H := K.out
    clear K
    simp only [impl_StoreOk.l0] at H
    replace H := ie_ H; rcases H with ⟨G, H⟩ | ⟨G, H⟩
    ·
     have I := decide_eq_true G
     clear G
     replace H := id_ H; obtain ⟨ca, H⟩ := H
     replace H := id_ H; obtain ⟨da, H⟩ := H
     replace H := bi_ H; obtain ⟨M, A7, H⟩ := H
     replace H := ib_ H; rcases H with ⟨rfl, H⟩ | ⟨rfl, H⟩
     ·
      have H' := Aside0.mk H
      clear H
      obtain ⟨n, o⟩ : 0 ≤ (a : Int) ∧ a < (l0.length : Int) := pq_
      obtain ⟨y, l, m, v, b, c, d, g, i⟩ := at_T26 E.out a n o
      cases v
      replace b := c2_ s b c; clear c; obtain ⟨b, c⟩ := b
      replace d := cl_ s.out d
      have p := Aside0.mk i
      have q := Aside0.mk g
      clear i g
      replace n := eq_true n; replace o := eq_true o
      go_wp2_with (first | ((with_reducible refine gd_ 4 rfl ?_); refine bv_ 4 #[.int .i64 0, .int .i64 0, .slice none 0 0] 26 ?_; intro z hg w9 u hb; have j := Aside0.mk (u); have t := gq_ hg s; replace s := st_ s hb; have A := Ge_.mk t.out; clear hb u hg; obtain ⟨N, O, P, Q, R, S⟩ := bc3_ j.out) | ((with_reducible refine gate_callee (f := 21) rfl ?_); refine gl_ (some 20) Tryz.func21 #[.agg #[.int .i64 ((rd_T26 l0 a).f0), .int .i64 ((rd_T26 l0 a).f1), .slice l ((rd_T26 l0 a).f2).length m], .int .i64 a, .int .i64 (l0.length : Int)] ?_; (with_reducible refine (impl_PartOk.calls L ((rd_T26 l0 a).f0) ((rd_T26 l0 a).f1) _ _ ((rd_T26 l0 a).f2) a (l0.length : Int) true _ ?side1 ?side2 A7.out).mono ?_); (case side1 => exact Kd.C_below p.out (hs_ s.out)); (case side2 => exact q.out); rintro e ha ⟨rfl, hb⟩; refine ⟨_, rfl, ?_⟩; replace j := by_ j #[.int .i64 ((rd_T26 l0 a).f0), .int .i64 ((rd_T26 l0 a).f1), .slice l ((rd_T26 l0 a).f2).length m] hb; replace s := st_ s hb; (try clear hb); (try clear hk)))
      go_roundg L
      case measure => have := F.out; omega
      case rel => exact ⟨(wrap64 (a + 1)), rs_, H', ⟨by have := F.out; omega⟩, ⟨hs_ s.out⟩⟩
     obtain rfl := Option.some.inj H
     obtain ⟨n, o⟩ : 0 ≤ (a : Int) ∧ a < (l0.length : Int) := pq_
     obtain ⟨y, l, m, v, b, c, d, g, i⟩ := at_T26 E.out a n o
     cases v
     replace b := c2_ s b c; clear c; obtain ⟨b, c⟩ := b
     replace d := cl_ s.out d
     have p := Aside0.mk i
     have q := Aside0.mk g
     clear i g
     replace n := eq_true n; replace o := eq_true o
     go_wp2_with (first | ((with_reducible refine gd_ 4 rfl ?_); refine bv_ 4 #[.int .i64 0, .int .i64 0, .slice none 0 0] 26 ?_; intro z hg ia u hb; have j := Aside0.mk (u); have t := gq_ hg s; replace s := st_ s hb; have A := Ge_.mk t.out; clear hb u hg; obtain ⟨T, U, V, W, X, Y⟩ := bc3_ j.out) | ((with_reducible refine gate_callee (f := 21) rfl ?_); refine gl_ (some 20) Tryz.func21 #[.agg #[.int .i64 ((rd_T26 l0 a).f0), .int .i64 ((rd_T26 l0 a).f1), .slice l ((rd_T26 l0 a).f2).length m], .int .i64 a, .int .i64 (l0.length : Int)] ?_; (with_reducible refine (impl_PartOk.calls L ((rd_T26 l0 a).f0) ((rd_T26 l0 a).f1) _ _ ((rd_T26 l0 a).f2) a (l0.length : Int) false _ ?side1 ?side2 A7.out).mono ?_); (case side1 => exact Kd.C_below p.out (hs_ s.out)); (case side2 => exact q.out); rintro e ja ⟨rfl, hb⟩; refine ⟨_, rfl, ?_⟩; replace j := by_ j #[.int .i64 ((rd_T26 l0 a).f0), .int .i64 ((rd_T26 l0 a).f1), .slice l ((rd_T26 l0 a).f2).length m] hb; replace s := st_ s hb; (try clear hb); (try clear hk)))
     go_ret
     exact an_ (hs_ s.out)
    have I : decide (a < (l0.length : Int)) = false := decide_eq_false G
    clear G
    obtain rfl := Option.some.inj H
    go_wp2
    go_ret
    exact an_ (hs_ s.out)
 obtain rfl := Option.some.inj H
 go_enter Tryz.func32, Tryz.ntmps32
 go_wp2_with (first | ((with_reducible refine gate_callee (f := 75) rfl ?_); refine gl_ (some 7) Tryz.func75 #[.int .i64 (l0.length : Int), .int .i64 1, .int .i64 3] ?_; (with_reducible refine (impl_in.calls (l0.length : Int) 1 3 false _ A2.out).mono ?_); rintro e w' ⟨rfl, ⟨nd, rfl⟩⟩; refine ⟨_, rfl, ?_⟩))
 go_ret
 exact an_ (hs_ s.out)
mutual
def impl_CountOf.l0 : Nat → Int → List (S26) → Int → Int → Option (Int)
 | 0, _, _, _, _ => none
 | k + 1, x3, x8, x9, x10 => if x10 < x9 then (if 0 ≤ x10 then (if x10 < (x8.length : Int) then (impl_CountOf.l1 k x3 x8 x9 x10 ((rd_T26 x8 x10).f2) (((rd_T26 x8 x10).f2).length : Int) 0) else (none)) else (none)) else (some x3)
def impl_CountOf.l1 : Nat → Int → List (S26) → Int → Int → List (S80) → Int → Int → Option (Int)
 | 0, _, _, _, _, _, _, _ => none
 | k + 1, x3, x8, x9, x10, x15, x16, x17 => if x17 < x16 then (if 0 ≤ x17 then (if x17 < (x15.length : Int) then (impl_CountOf.l1 k (wrap64 (x3 + (((rd_T80 x15 x17).f1).length : Int))) x8 x9 x10 x15 x16 (wrap64 (x17 + 1))) else (none)) else (none)) else (impl_CountOf.l0 k x3 x8 x9 (wrap64 (x10 + 1)))
end
def impl_CountOf.f (k : Nat) (l0 : List (S26)) : Option (Int) := impl_CountOf.l0 k 0 l0 (l0.length : Int) 0
theorem impl_CountOf.calls (k : Nat) (A0 : Option Addr) (c0 : Nat) (l0 : List (S26)) (r : Int) (w : World) (T : Kd.C k26 w A0 l0.length l0) (U : l0.length ≤ c0) (h : impl_CountOf.f k l0 = some r) :
  Calls Tryz.prog 34 #[.slice A0 l0.length c0] w fun e w' => e = .returned (.int .i64 r) ∧ Below w.heap.size w w' := by
 have hu26 := Tryz.underlying26
 have hu80 := Tryz.underlying80
 have ga := Aside0.mk T
 have Ea := Aside0.mk U
 clear T U
 have v := Aside0.mk (Below.refl w.heap.size w)
 have H : (impl_CountOf.l0 k 0 l0 (l0.length : Int) 0) = some r := h
 clear h
 have H' := Aside0.mk H
 clear H
 go_enter Tryz.func34, Tryz.ntmps34
 go_wp2
 go_loopg [3, 10] k (fun kq v3 ia w' => ∃ (B : Int) (a : Int), v3 = .int .i64 B ∧ ia = .int .i64 a ∧ Aside0 (impl_CountOf.l0 kq B l0 (l0.length : Int) a = some r) ∧ Aside0 (kq ≤ k) ∧ Aside0 (Below w.heap.size w w'))
 case atStart => exact ⟨(0), (0), rs_, rs_, H', ⟨Nat.le_refl _⟩, ⟨hs_ v.out⟩⟩
 case round =>
  clear H'
  obtain ⟨B, a, rfl, rfl, N, G, v⟩ := hrel
  cases gk with
  | zero => exact absurd N.out (by simp [impl_CountOf.l0])
  | succ k1 =>
   have H := N.out
   clear N
   simp only [impl_CountOf.l0] at H
   replace H := ie_ H; rcases H with ⟨V, H⟩ | ⟨V, H⟩
   ·
    have W := decide_eq_true V
    clear V
    replace H := id_ H; obtain ⟨ta, H⟩ := H
    replace H := id_ H; obtain ⟨ua, H⟩ := H
    have H' := Aside0.mk H
    clear H
    obtain ⟨x, y⟩ : 0 ≤ (a : Int) ∧ a < (l0.length : Int) := pq_
    obtain ⟨ba, E, F, O, c, i, l, m, n⟩ := at_T26 ga.out a x y
    cases O
    replace c := c2_ v c i; clear i; obtain ⟨c, i⟩ := c
    replace l := cl_ v.out l
    have D := Aside0.mk n
    have Q := Aside0.mk m
    clear n m
    replace x := eq_true x; replace y := eq_true y
    go_wp2_with (first | ((with_reducible refine gd_ 5 rfl ?_); refine bv_ 5 #[.int .i64 0, .int .i64 0, .slice none 0 0] 26 ?_; intro I hg w5 t hb; have d := Aside0.mk (t); have J := gq_ hg v; replace v := st_ v hb; have ca := Ge_.mk J.out; clear hb t hg; obtain ⟨va, wa, xa, ya, za, Aa⟩ := bc3_ d.out))
    go_loopg [3, 17] k1 (fun kq v3 ja w' => ∃ (u : Int) (b : Int), v3 = .int .i64 u ∧ ja = .int .i64 b ∧ Aside0 (impl_CountOf.l1 kq u l0 (l0.length : Int) a ((rd_T26 l0 a).f2) (((rd_T26 l0 a).f2).length : Int) b = some r) ∧ Aside0 (kq ≤ k1) ∧ Aside0 (w'.heap[I]? = some (.cells #[.int .i64 ((rd_T26 l0 a).f0), .int .i64 ((rd_T26 l0 a).f1), (.slice E ((rd_T26 l0 a).f2).length F)] 26 (0, 0))) ∧ Aside0 (Below w.heap.size w w'))
    case atStart => exact ⟨(B), (0), rs_, rs_, H', ⟨Nat.le_refl _⟩, ⟨bp_ d.out⟩, ⟨hs_ v.out⟩⟩
    case round =>
     clear H'
     obtain ⟨u, b, rfl, rfl, N, K, d, v⟩ := hrel
     cases gk with
     | zero => exact absurd N.out (by simp [impl_CountOf.l1])
     | succ k2 =>
      have H := N.out
      clear N
      simp only [impl_CountOf.l1] at H
      replace H := ie_ H; rcases H with ⟨X, H⟩ | ⟨X, H⟩
      ·
       have Y := decide_eq_true X
       clear X
       replace H := id_ H; obtain ⟨Ca, H⟩ := H
       replace H := id_ H; obtain ⟨Da, H⟩ := H
       have H' := Aside0.mk H
       clear H
       obtain ⟨z, A⟩ : 0 ≤ (b : Int) ∧ b < (((rd_T26 l0 a).f2).length : Int) := pq_
       obtain ⟨da, Z, aa, P, g, j, o, p⟩ := at_T80 D.out b z A
       cases P
       replace g := c2_ v g j; clear j; obtain ⟨g, j⟩ := g
       have R := Aside0.mk p
       have S := Aside0.mk o
       clear p o
       replace z := eq_true z; replace A := eq_true A
       go_wp2_with (first | ((with_reducible refine gd_ 7 rfl ?_); refine bv_ 7 #[.int .i64 0, .slice none 0 0] 80 ?_; intro ea hg Fa t hb; have L := Aside0.mk (t); have M := gq_ hg v; replace v := st_ v hb; have fa := Ge_.mk M.out; obtain ⟨q, s, d⟩ := nb_ d hg hb; clear hb t hg; have ka := s.out; have la := q.out; obtain ⟨ma, na, oa, pa⟩ := bc2_ L.out))
       go_roundg k2
       case measure => have := G.out; have := K.out; omega
       case rel => exact ⟨(wrap64 (u + (((rd_T80 ((rd_T26 l0 a).f2) b).f1).length : Int))), (wrap64 (b + 1)), rs_, rs_, H', ⟨by have := G.out; have := K.out; omega⟩, ⟨bq_ d.out⟩, ⟨hs_ v.out⟩⟩
      have Y : decide (b < (((rd_T26 l0 a).f2).length : Int)) = false := decide_eq_false X
      clear X
      have H' := Aside0.mk H
      clear H
      go_wp2
      go_roundg k2
      case measure => have := G.out; have := K.out; omega
      case rel => exact ⟨(u), (wrap64 (a + 1)), rs_, rs_, H', ⟨by have := G.out; have := K.out; omega⟩, ⟨hs_ v.out⟩⟩
   have W : decide (a < (l0.length : Int)) = false := decide_eq_false V
   clear V
   obtain rfl := Option.some.inj H
   go_wp2
   go_ret
   exact an_ (hs_ v.out)
mutual
noncomputable def laws_FnStores.j0 : Nat → List (S26) → List (S26) → Bool → List (S29) → Bool → Option (Bool)
 | 0, _, _, _, _, _ => none
 | k + 1, x3, x5, x6, x11, x82 => if x82 = true then (none) else (laws_FnStores.l0 k x3 x5 x6 x11 0)
noncomputable def laws_FnStores.l0 : Nat → List (S26) → List (S26) → Bool → List (S29) → Int → Option (Bool)
 | 0, _, _, _, _, _ => none
 | k + 1, x3, x5, x6, x11, x12 => if x12 < (x11.length : Int) then (if 0 ≤ x12 then ((impl_FindAlarm.f k x5 ((rd_T29 x11 x12).f0)).bind fun bt1488 => (if bt1488.2.2.2.2 = true then ((impl_SameAlarm.f k bt1488.1 bt1488.2.1 bt1488.2.2.1 bt1488.2.2.2.1 ((rd_T29 x11 x12).f0) ((rd_T29 x11 x12).f1) ((rd_T29 x11 x12).f2) ((rd_T29 x11 x12).f3)).bind fun t1497 => (if t1497 = true then (if x12 > 0 then (if 0 ≤ (wrap64 (x12 - 1)) then (if (wrap64 (x12 - 1)) < (x11.length : Int) then ((impl_SetLess.f k ((rd_T29 x11 (wrap64 (x12 - 1))).f0) ((rd_T29 x11 x12).f0)).bind fun t1500 => (if t1500 = true then (laws_FnStores.l0 k x3 x5 x6 x11 (wrap64 (x12 + 1))) else (none))) else (none)) else (none)) else (laws_FnStores.l0 k x3 x5 x6 x11 (wrap64 (x12 + 1)))) else (none))) else (none))) else (none)) else (if x6 = true then ((impl_CountOf.f k x5).bind fun t1501 => (if (x11.length : Int) = t1501 then ((impl_CountOf.f k x5).bind fun t1502 => ((impl_CountOf.f k x3).bind fun t1503 => (some (t1502 == (wrap64 (t1503 + 1)))))) else (none))) else ((impl_CountOf.f k x5).bind fun t1504 => (if (x11.length : Int) = t1504 then ((impl_CountOf.f k x5).bind fun t1505 => ((impl_CountOf.f k x3).bind fun t1506 => (some (t1505 == (wrap64 (t1506 + 0)))))) else (none))))
end
noncomputable def laws_FnStores.f (k : Nat) (l0 : List Int) : Option (Bool) := (laws_big.f l0).bind fun t1443 => (if t1443 = true then (some true) else ((spec_DrawStore.f k l0).bind fun bt1444 => ((impl_PutAlarm.f k bt1444.1 bt1444.2.1 bt1444.2.2.1 bt1444.2.2.2.1 bt1444.2.2.2.2).bind fun bt1454 => ((impl_FindAlarm.f k bt1444.1 bt1444.2.1).bind fun bt1458 => ((impl_FindAlarm.f k bt1454.1 bt1444.2.1).bind fun bt1466 => ((impl_AllAlarms.f k bt1454.1).bind fun t1474 => ((impl_StoreOk.f k bt1444.1).bind fun t1477 => (if t1477 = true then ((impl_StoreOk.f k bt1454.1).bind fun t1478 => (if t1478 = true then (if (bt1454.2 == bt1458.2.2.2.2) = true then (none) else (if bt1466.2.2.2.2 = true then (if bt1458.2.2.2.2 = true then ((impl_Merge.f bt1458.1 bt1458.2.1 bt1458.2.2.1 bt1458.2.2.2.1 bt1444.2.1 bt1444.2.2.1 bt1444.2.2.2.1 bt1444.2.2.2.2).bind fun bt1479 => ((impl_SameAlarm.f k bt1466.1 bt1466.2.1 bt1466.2.2.1 bt1466.2.2.2.1 bt1479.1 bt1479.2.1 bt1479.2.2.1 bt1479.2.2.2).bind fun t1485 => (if t1485 = true then (laws_FnStores.j0 k bt1444.1 bt1454.1 bt1454.2 t1474 false) else (none)))) else ((impl_SameAlarm.f k bt1466.1 bt1466.2.1 bt1466.2.2.1 bt1466.2.2.2.1 bt1444.2.1 bt1444.2.2.1 bt1444.2.2.2.1 bt1444.2.2.2.2).bind fun t1486 => (laws_FnStores.j0 k bt1444.1 bt1454.1 bt1454.2 t1474 (!t1486)))) else (none))) else (none))) else (none)))))))))
noncomputable def laws_FnStores.T8 : Bool × List (List Nat × List Nat) := (true, [([], []), ([0], [0]), ([1], [1]), ([2, 1], [2]), ([3], [3]), ([4, 3, 3], [3, 4]), ([5, 3], [3, 5]), ([3, 6], [3, 6]), ([7, 5], [7]), ([8], [8]), ([8], [8]), ([9, 10, 8], [8, 9, 10]), ([8, 11], [8, 11]), ([12, 8], [12]), ([13], [13]), ([14, 13], [13, 14]), ([13, 15], [13, 15]), ([16, 13], [16]), ([17], [17]), ([18, 17, 17], [17, 18]), ([19], [19]), ([19], [19]), ([19], [19]), ([21, 22, 19, 19], [19, 21, 22]), ([20, 23, 23, 19], [19, 20, 23]), ([24, 19], [19, 24]), ([19, 25, 17], [17, 19, 25]), ([17, 26], [17, 26]), ([27, 24], [27]), ([28], [28]), ([29, 28], [28, 29]), ([30, 28, 28], [28, 30]), ([31], [31]), ([31], [31]), ([32, 33, 31, 31], [31, 32, 33]), ([34, 31], [31, 34]), ([31, 35, 28], [28, 31, 35]), ([28, 36], [28, 36])])
noncomputable def laws_FnStores.B8 : List Nat := [0, 1, 3, 7, 15, 31, 63, 127, 255, 511, 511, 2047, 4095, 8191, 16383, 32767, 65535, 131071, 262143, 524287, 1048575, 1048575, 1048575, 7340031, 16777215, 33554431, 67108863, 134217727, 268435455, 536870911, 1073741823, 2147483647, 4294967295, 4294967295, 17179869183, 34359738367, 68719476735, 137438953471]
theorem laws_FnStores.tab8 : rtab .any (opsOf Tryz.f4 8) = laws_FnStores.T8 := by kernel_rfl
theorem laws_FnStores.bits8 : waitsOk laws_FnStores.T8.2 laws_FnStores.B8 = true := by kernel_rfl
noncomputable def laws_FnStores.T14 : Bool × List (List Nat × List Nat) := (true, [([], []), ([0], [0]), ([1], [1]), ([2], [2]), ([2], [2]), ([2], [2]), ([4, 5, 2], [2, 4, 5]), ([6, 2], [2, 6]), ([3, 7, 2, 2], [2, 3, 7]), ([8, 2], [2, 8]), ([2, 9], [2, 9]), ([10, 8], [10]), ([11], [11]), ([12, 11], [11, 12]), ([13, 11, 11], [11, 13]), ([14], [14]), ([14], [14]), ([16, 14], [14, 16]), ([15, 17, 14], [14, 15, 17]), ([18, 14], [14, 18]), ([19, 14], [14, 19]), ([14], [14]), ([14], [14]), ([21, 22, 14], [14, 21, 22]), ([23, 14], [14, 23]), ([24, 14], [14, 24]), ([20, 25, 14, 14], [14, 20, 25]), ([26, 14], [14, 26]), ([14, 27, 11], [11, 14, 27]), ([11, 28], [11, 28])])
noncomputable def laws_FnStores.B14 : List Nat := [0, 1, 3, 7, 7, 7, 55, 119, 255, 511, 1023, 2047, 4095, 8191, 16383, 32767, 32767, 98303, 262143, 524287, 1048575, 32767, 32767, 6324223, 14712831, 31490047, 67108863, 134217727, 268435455, 536870911]
theorem laws_FnStores.tab14 : rtab .any (opsOf Tryz.f4 14) = laws_FnStores.T14 := by kernel_rfl
theorem laws_FnStores.bits14 : waitsOk laws_FnStores.T14.2 laws_FnStores.B14 = true := by kernel_rfl
theorem laws_FnStores.calls (k : Nat) (A0 : Option Addr) (c0 : Nat) (l0 : List Int) (r : Bool) (w : World) (fe : Kd.C (Kd.int .u8) w A0 l0.length l0) (ge : l0.length ≤ c0) (h : laws_FnStores.f k l0 = some r) :
  Calls Tryz.prog 4 #[.slice A0 l0.length c0] w fun e w' => e = .returned (.bool r) ∧ Below w.heap.size w w' := by
 have hu29 := Tryz.underlying29
 have Bd := Aside0.mk fe
 have Cd := Aside0.mk ge
 clear fe ge
 have V := Aside0.mk (Below.refl w.heap.size w)
 have H : ((laws_big.f l0).bind fun Mc => (if Mc = true then (some true) else ((spec_DrawStore.f k l0).bind fun bt1444 => ((impl_PutAlarm.f k bt1444.1 bt1444.2.1 bt1444.2.2.1 bt1444.2.2.2.1 bt1444.2.2.2.2).bind fun bt1454 => ((impl_FindAlarm.f k bt1444.1 bt1444.2.1).bind fun bt1458 => ((impl_FindAlarm.f k bt1454.1 bt1444.2.1).bind fun bt1466 => ((impl_AllAlarms.f k bt1454.1).bind fun i => ((impl_StoreOk.f k bt1444.1).bind fun Nc => (if Nc = true then ((impl_StoreOk.f k bt1454.1).bind fun Oc => (if Oc = true then (if (bt1454.2 == bt1458.2.2.2.2) = true then (none) else (if bt1466.2.2.2.2 = true then (if bt1458.2.2.2.2 = true then ((impl_Merge.f bt1458.1 bt1458.2.1 bt1458.2.2.1 bt1458.2.2.2.1 bt1444.2.1 bt1444.2.2.1 bt1444.2.2.2.1 bt1444.2.2.2.2).bind fun bt1479 => ((impl_SameAlarm.f k bt1466.1 bt1466.2.1 bt1466.2.2.1 bt1466.2.2.2.1 bt1479.1 bt1479.2.1 bt1479.2.2.1 bt1479.2.2.2).bind fun Pc => (if Pc = true then (laws_FnStores.j0 k bt1444.1 bt1454.1 bt1454.2 i false) else (none)))) else ((impl_SameAlarm.f k bt1466.1 bt1466.2.1 bt1466.2.2.1 bt1466.2.2.2.1 bt1444.2.1 bt1444.2.2.1 bt1444.2.2.2.1 bt1444.2.2.2.2).bind fun Rb => (laws_FnStores.j0 k bt1444.1 bt1454.1 bt1454.2 i (!Rb)))) else (none))) else (none))) else (none)))))))))) = some r := h
 clear h
 replace H := bi_ H; obtain ⟨Mc, A2, H⟩ := H
 replace H := ib_ H; rcases H with ⟨rfl, H⟩ | ⟨rfl, H⟩
 ·
  obtain rfl := Option.some.inj H
  go_enter Tryz.func4, Tryz.ntmps4
  go_wp2_with (first | ((with_reducible refine gate_callee (f := 6) rfl ?_); refine gl_ (some 17) Tryz.func6 #[.slice A0 l0.length c0] ?_; (with_reducible refine (laws_big.calls _ _ l0 true _ ?side1 ?side2 A2.out).mono ?_); (case side1 => exact cp_ (Bd.out)); (case side2 => exact Cd.out); rintro e w' ⟨rfl, ⟨nd, rfl⟩⟩; refine ⟨_, rfl, ?_⟩))
  go_ret
  exact an_ (hs_ V.out)
 replace H := bi_ H; obtain ⟨⟨X, O, ja, ka, la⟩, A4, H⟩ := H; (try dsimp only at H)
 replace H := bi_ H; obtain ⟨⟨L, db⟩, A5, H⟩ := H; (try dsimp only at H)
 replace H := bi_ H; obtain ⟨⟨da, Oa, Pa, Qa, Bb⟩, A6, H⟩ := H; (try dsimp only at H)
 replace H := bi_ H; obtain ⟨⟨aa, ra, sa, ta, Dd⟩, A7, H⟩ := H; (try dsimp only at H)
 replace H := bi_ H; obtain ⟨i, A8, H⟩ := H
 have Ed := Aside0.mk H
 clear H
 go_enter Tryz.func4, Tryz.ntmps4
 go_upto_region 8 with (first | ((with_reducible refine gate_callee (f := 6) rfl ?_); refine gl_ (some 17) Tryz.func6 #[.slice A0 l0.length c0] ?_; (with_reducible refine (laws_big.calls _ _ l0 false _ ?side1 ?side2 A2.out).mono ?_); (case side1 => exact cp_ (Bd.out)); (case side2 => exact Cd.out); rintro e w' ⟨rfl, ⟨nd, rfl⟩⟩; refine ⟨_, rfl, ?_⟩) | ((with_reducible refine gate_callee (f := 28) rfl ?_); refine gl_ (some 20) Tryz.func28 #[.slice A0 l0.length c0] ?_; (with_reducible refine (spec_DrawStore.calls k _ _ l0 X O ja ka la _ ?side1 ?side2 A4.out).mono ?_); (case side1 => exact cp_ (Bd.out)); (case side2 => exact Cd.out); rintro e fh ⟨Ke, Le, rfl, ha, he, hb⟩; refine ⟨_, rfl, ?_⟩; obtain ⟨ea, Cc⟩ := Kd.S_name ha; have s := sg_ Cc ha V; have q := rg_ Cc he V; have fc := st_ V hb; clear V; have V := fc; clear fc; (try clear hb); (try clear hk); (try clear ha); (try clear he)) | ((with_reducible refine gd_ 4 rfl ?_); refine bv_ 4 #[.slice none 0 0, .int .i64 0, .int .i64 0, .string (⟨#[]⟩ : ByteArray)] 29 ?_; intro A hg gh za hb; replace s := se_ s hg hb; replace q := rb_ q hb; have a := Aside0.mk (za); have pd := gq_ hg V; replace V := st_ V hb; have De := Ge_.mk pd.out; clear hb za hg; obtain ⟨qa, ma, ie⟩ := Kd.R_slice q.out; subst ie; obtain ⟨Me, Ne, Oe, Pe, Qe, Re, Se, Te⟩ := bc4_ a.out; obtain ⟨zb, nb, je⟩ := Kd.S_slice s.out; subst je) | ((with_reducible refine gate_callee (f := 29) rfl ?_); refine gl_ (some 26) Tryz.func29 #[.slice zb X.length nb, .agg #[.slice qa O.length ma, .int .i64 ja, .int .i64 ka, .string la]] ?_; (with_reducible refine (impl_PutAlarm.calls k _ _ X _ _ O ja ka la L db _ ?side1 ?side2 ?side3 ?side4 A5.out).mono ?_); (case side1 => refine (Kd.S_reads' (e := 26) (base := w.heap.size) (ok := fun k_ => ((some k_ ≠ (.slice qa O.length ma : Value).ownBlock ∧ ea ≤ k_) ∧ k_ ≠ A)) (n := X.length) (c := nb) ?_).2.2; exact (sf_ A s.out (fun _ hk => hk.2))); (case side2 => exact (Kd.S_reads' s.out).2.1); (case side3 => refine (Kd.R_reads' (e := 99) (base := w.heap.size) (ok := fun k_ => (True ∧ ea ≤ k_)) (n := O.length) (c := ma) ?_).2.2; exact (ry_ q.out a.out)); (case side4 => exact (Kd.R_reads' q.out).2.1); rintro e hh ⟨Ue, rfl, ha, hb⟩; refine ⟨_, rfl, ?_⟩; obtain ⟨Y, Sb⟩ := Kd.S_name ha; replace s := su_ Sb (sf_ A s.out (fun _ hk => hk.2)) hb; replace q := ru_ Sb (ry_ q.out a.out) hb; have t := Aside0.mk (Kd.S_lower (Kd.S_newB (Kd.S_gez Sb ha) (bp_ a.out)) (below_size (hs_ V.out))); replace a := by_ a #[.slice qa O.length ma, .int .i64 ja, .int .i64 ka, .string la] hb; replace V := st_ V hb; (try clear hb); (try clear hk); (try clear ha); obtain ⟨Ve, We, Xe, Ye, Ze, af, bf, cf⟩ := bc4_ a.out) | ((with_reducible refine gate_callee (f := 30) rfl ?_); refine gl_ (some 33) Tryz.func30 #[.slice zb X.length nb, .slice qa O.length ma] ?_; (with_reducible refine (impl_FindAlarm.calls k _ _ X _ _ O da Oa Pa Qa Bb _ ?side1 ?side2 ?side3 ?side4 A6.out).mono ?_); (case side1 => exact cp_ ((Kd.S_reads' s.out).2.2)); (case side2 => exact (Kd.S_reads' s.out).2.1); (case side3 => exact cp_ ((Kd.R_reads' q.out).2.2)); (case side4 => exact (Kd.R_reads' q.out).2.1); rintro e ih ⟨df, rfl, ha, hb⟩; refine ⟨_, rfl, ?_⟩; obtain ⟨P, Ab⟩ := Kd.R_name ha; replace s := su_ Ab (sp_ s.out) hb; replace q := ru_ Ab (rp_ q.out) hb; replace t := su_ Ab (sp_ t.out) hb; have y := rg_ Ab ha V; replace a := bk2_ a hb; replace V := st_ V hb; (try clear hb); (try clear hk); (try clear ha)) | ((with_reducible refine gd_ 7 rfl ?_); refine bv_ 7 #[.slice none 0 0, .int .i64 0, .int .i64 0, .string (⟨#[]⟩ : ByteArray)] 29 ?_; intro G hg jh za hb; replace s := se_ s hg hb; replace q := rb_ q hb; replace t := se_ t hg hb; replace y := rb_ y hb; have d := Aside0.mk (za); have qd := gq_ hg V; replace V := st_ V hb; have Ee := Ge_.mk qd.out; obtain ⟨Tb, Ub, a⟩ := nb_ a hg hb; clear hb za hg; obtain ⟨eb, fb, ke⟩ := Kd.R_slice y.out; subst ke; have ef := Ub.out; have ff := Tb.out; obtain ⟨gf, hf, jf, kf, lf, mf, nf, pf⟩ := bc4_ d.out; obtain ⟨qf, rf, sf, tf, uf, vf, wf, xf⟩ := bc4_ a.out; obtain ⟨cb, Aa, le⟩ := Kd.S_slice t.out; subst le) | ((with_reducible refine gate_callee (f := 30) rfl ?_); refine gl_ (some 40) Tryz.func30 #[.slice cb L.length Aa, .slice qa O.length ma] ?_; (with_reducible refine (impl_FindAlarm.calls k _ _ L _ _ O aa ra sa ta Dd _ ?side1 ?side2 ?side3 ?side4 A7.out).mono ?_); (case side1 => refine (Kd.S_reads' (e := 26) (base := w.heap.size) (ok := fun k_ => ((((True ∧ Y ≤ k_) ∧ k_ ≠ A) ∧ k_ < P) ∧ k_ ≠ G)) (n := L.length) (c := Aa) ?_).2.2; exact (sf_ G t.out (fun _ hk => hk.2))); (case side2 => exact (Kd.S_reads' t.out).2.1); (case side3 => refine (Kd.R_reads' (e := 99) (base := w.heap.size) (ok := fun k_ => (((True ∧ ea ≤ k_) ∧ k_ < Y) ∧ k_ < P)) (n := O.length) (c := ma) ?_).2.2; exact (ry_ q.out d.out)); (case side4 => exact (Kd.R_reads' q.out).2.1); rintro e kh ⟨yf, rfl, ha, hb⟩; refine ⟨_, rfl, ?_⟩; obtain ⟨M, ob⟩ := Kd.R_name ha; replace s := su_ ob (sf_ G s.out (fun _ hk => hk.2)) hb; replace q := ru_ ob (ry_ q.out d.out) hb; replace t := su_ ob (sf_ G t.out (fun _ hk => hk.2)) hb; replace y := ru_ ob (ry_ y.out d.out) hb; have B := rg_ ob ha V; replace a := bk2_ a hb; replace d := by_ d #[.slice eb da.length fb, .int .i64 Oa, .int .i64 Pa, .string Qa] hb; replace V := st_ V hb; (try clear hb); (try clear hk); (try clear ha)) | ((with_reducible refine gd_ 9 rfl ?_); refine bv_ 9 #[.slice none 0 0, .int .i64 0, .int .i64 0, .string (⟨#[]⟩ : ByteArray)] 29 ?_; intro E hg lh za hb; replace s := se_ s hg hb; replace q := rb_ q hb; replace t := se_ t hg hb; replace y := rb_ y hb; replace B := rb_ B hb; have b := Aside0.mk (za); have Fe := gq_ hg V; have Ge := gq_ hg V; replace V := st_ V hb; obtain ⟨Vb, Wb, a⟩ := nb_ a hg hb; obtain ⟨Xb, Yb, d⟩ := nb_ d hg hb; clear hb za hg; obtain ⟨Ba, Ca, me⟩ := Kd.R_slice B.out; subst me; have zf := Wb.out; have Af := Vb.out; have Bf := Yb.out; have Cf := Xb.out; obtain ⟨Df, Ef, Ff, Gf, Hf, If, Jf, Kf⟩ := bc4_ b.out) | ((with_reducible refine gate_callee (f := 31) rfl ?_); refine gl_ (some 44) Tryz.func31 #[.slice cb L.length Aa] ?_; (with_reducible refine (impl_AllAlarms.calls k _ _ L i _ ?side1 ?side2 A8.out).mono ?_); (case side1 => refine (Kd.S_reads' (e := 26) (base := w.heap.size) (ok := fun k_ => ((((((True ∧ Y ≤ k_) ∧ k_ ≠ A) ∧ k_ < P) ∧ k_ ≠ G) ∧ k_ < M) ∧ k_ ≠ E)) (n := L.length) (c := Aa) ?_).2.2; exact (sf_ E t.out (fun _ hk => hk.2))); (case side2 => exact (Kd.S_reads' t.out).2.1); rintro e ne ⟨Qc, rfl, ha, hb⟩; refine ⟨_, rfl, ?_⟩; obtain ⟨z, lb⟩ := Kd.S_name ha; replace s := su_ lb (sf_ E s.out (fun _ hk => hk.2)) hb; replace q := ru_ lb (ry_ q.out b.out) hb; replace t := su_ lb (sf_ E t.out (fun _ hk => hk.2)) hb; replace y := ru_ lb (ry_ y.out b.out) hb; replace B := ru_ lb (ry_ B.out b.out) hb; have Q := Aside0.mk (Kd.S_lower (Kd.S_newB (Kd.S_newB (Kd.S_newB (Kd.S_gez lb ha) (bq_ a.out)) (bq_ d.out)) (bp_ b.out)) (below_size (hs_ V.out))); replace a := bk2_ a hb; replace d := bk2_ d hb; replace b := by_ b #[.slice Ba aa.length Ca, .int .i64 ra, .int .i64 sa, .string ta] hb; replace V := st_ V hb; (try clear hb); (try clear hk); (try clear ha)))
 (try simp only [Act.put, List.setIfInBounds_toArray, List.set_cons_zero, List.set_cons_succ])
 go_cut [82] (fun Lf wc => ∃ (kq : Nat) (rc : Bool), Lf = .bool rc ∧ Aside0 (laws_FnStores.j0 kq X L db i rc = some r) ∧ Aside0 (kq ≤ k) ∧ Aside0 (Kd.S k26 26 wc w.heap.size (fun k_ => k_ ≠ A ∧ k_ ≠ G ∧ k_ ≠ E ∧ ea ≤ k_ ∧ k_ < Y ∧ k_ < P ∧ k_ < M ∧ k_ < z) (.slice zb X.length nb) X) ∧ Aside0 (Kd.S k26 26 wc w.heap.size (fun k_ => k_ ≠ A ∧ k_ ≠ G ∧ k_ ≠ E ∧ Y ≤ k_ ∧ k_ < P ∧ k_ < M ∧ k_ < z) (.slice cb L.length Aa) L) ∧ Aside0 (Kd.S k29 29 wc w.heap.size (fun k_ => k_ ≠ A ∧ k_ ≠ G ∧ k_ ≠ E ∧ z ≤ k_) Qc i) ∧ Aside0 (Kd.R k99 99 wc w.heap.size (fun k_ => ea ≤ k_ ∧ k_ < Y ∧ k_ < P ∧ k_ < M ∧ k_ < z) (.slice qa O.length ma) O) ∧ Aside0 (Kd.R k99 99 wc w.heap.size (fun k_ => P ≤ k_ ∧ k_ < M ∧ k_ < z) (.slice eb da.length fb) da) ∧ Aside0 (Kd.R k99 99 wc w.heap.size (fun k_ => M ≤ k_ ∧ k_ < z) (.slice Ba aa.length Ca) aa) ∧ Aside0 (wc.heap[A]? = some (.cells #[(.slice qa O.length ma), .int .i64 ja, .int .i64 ka, .string la] 29 (0, 0))) ∧ Aside0 (wc.heap[G]? = some (.cells #[(.slice eb da.length fb), .int .i64 Oa, .int .i64 Pa, .string Qa] 29 (0, 0))) ∧ Aside0 (wc.heap[E]? = some (.cells #[(.slice Ba aa.length Ca), .int .i64 ra, .int .i64 sa, .string ta] 29 (0, 0))) ∧ Aside0 (Below w.heap.size w wc))
 case first =>
  have H := Ed.out
  clear Ed
  replace H := bi_ H; obtain ⟨Nc, oe, H⟩ := H
  replace H := in_ H; obtain ⟨rfl, H⟩ := H
  replace H := bi_ H; obtain ⟨Oc, pe, H⟩ := H
  replace H := in_ H; obtain ⟨rfl, H⟩ := H
  replace H := io_ H; obtain ⟨Rc, H⟩ := H
  have Sc : (db == Bb) = false := by simpa using Rc
  (try (have Mf : decide (db = Bb) = false := by simpa using Rc))
  (try (have Nf : (db == Bb) = false := by simpa using Rc))
  (try (have Of : ¬ (db = Bb) := by simpa using Rc))
  clear Rc
  (first | rw [Sc] | (simp only [i64_w, i32_w]; rw [Sc]) | skip)
  replace H := in_ H; obtain ⟨rfl, H⟩ := H
  replace H := ib_ H; rcases H with ⟨rfl, H⟩ | ⟨rfl, H⟩
  ·
   replace H := bi_ H; obtain ⟨⟨sc, tc, uc, vc⟩, Pf, H⟩ := H; (try dsimp only at H)
   replace H := bi_ H; obtain ⟨Pc, Qf, H⟩ := H
   replace H := in_ H; obtain ⟨rfl, H⟩ := H
   have H' := Aside0.mk H
   clear H
   try go_wp2
   replace s := Aside0.mk (Kd.S_drew s.out)
   replace q := Aside0.mk (Kd.R_drew q.out)
   replace t := Aside0.mk (Kd.S_drew t.out)
   replace y := Aside0.mk (Kd.R_drew y.out)
   replace B := Aside0.mk (Kd.R_drew B.out)
   replace Q := Aside0.mk (Kd.S_drew Q.out)
   replace a := Aside0.mk (blk_drew a.out)
   replace d := Aside0.mk (blk_drew d.out)
   replace b := Aside0.mk (blk_drew b.out)
   replace V := Aside0.mk (bd_ V.out)
   refine start_ (n := 38) (S := fun w' => w'.cell? ⟨E, 0, none⟩ = some (.slice Ba aa.length Ca) ∧ w'.cell? ⟨E, 1, none⟩ = some (.int .i64 ra) ∧ w'.cell? ⟨E, 2, none⟩ = some (.int .i64 sa) ∧ w'.cell? ⟨E, 3, none⟩ = some (.string ta) ∧ w'.cell? ⟨G, 0, none⟩ = some (.slice eb da.length fb) ∧ w'.cell? ⟨G, 1, none⟩ = some (.int .i64 Oa) ∧ w'.cell? ⟨G, 2, none⟩ = some (.int .i64 Pa) ∧ w'.cell? ⟨G, 3, none⟩ = some (.string Qa) ∧ w'.cell? ⟨A, 0, none⟩ = some (.slice qa O.length ma) ∧ w'.cell? ⟨A, 1, none⟩ = some (.int .i64 ja) ∧ w'.cell? ⟨A, 2, none⟩ = some (.int .i64 ka) ∧ w'.cell? ⟨A, 3, none⟩ = some (.string la)) (ds := []) (b_ 0 38) (by kernel_rfl) rfl rfl ⟨bx_ b.out 0, bx_ b.out 1, bx_ b.out 2, bx_ b.out 3, bx_ d.out 0, bx_ d.out 1, bx_ d.out 2, bx_ d.out 3, bx_ a.out 0, bx_ a.out 1, bx_ a.out 2, bx_ a.out 3⟩ (fun j => ?_); refine with_tabW laws_FnStores.tab8 laws_FnStores.bits8 (fun T Cb => ?_)
   generalize ne.drew = mh at s q t y B Q a d b V j ⊢
   refine p_ T ?_
   refine o1_ 1 (b_ 2 36) T (fun K hK => ?_)
   refine gs_ Tryz.func32 #[.slice zb X.length nb] ?_
   with_reducible refine (impl_StoreOk.calls k _ _ X true _ ?side1 ?side2 oe.out).mono ?_
   (case side1 => exact cp_ ((Kd.S_reads' s.out).2.2))
   (case side2 => exact (Kd.S_reads' s.out).2.1)
   rintro e nh ⟨rfl, hb⟩
   refine ⟨_, rfl, ?_⟩
   replace s := sb_ s hb
   replace q := rb_ q hb
   replace t := sb_ t hb
   replace y := rb_ y hb
   replace B := rb_ B hb
   replace Q := sb_ Q hb
   replace a := bk2_ a hb
   replace d := bk2_ d hb
   replace b := bk2_ b hb
   replace V := st_ V hb
   (try clear hb)
   (try clear hk)
   refine ho_ hK (f4_ b.out (f4_ d.out (e4_ a.out))) (fun j => ?_)
   iterate 3 refine p_ T ?_
   refine o1_ 5 (b_ 6 32) T (fun K hK => ?_)
   refine gs_ Tryz.func32 #[.slice cb L.length Aa] ?_
   with_reducible refine (impl_StoreOk.calls k _ _ L true _ ?side1 ?side2 pe.out).mono ?_
   (case side1 => exact cp_ ((Kd.S_reads' t.out).2.2))
   (case side2 => exact (Kd.S_reads' t.out).2.1)
   rintro e oh ⟨rfl, hb⟩
   refine ⟨_, rfl, ?_⟩
   replace s := sb_ s hb
   replace q := rb_ q hb
   replace t := sb_ t hb
   replace y := rb_ y hb
   replace B := rb_ B hb
   replace Q := sb_ Q hb
   replace a := bk2_ a hb
   replace d := bk2_ d hb
   replace b := bk2_ b hb
   replace V := st_ V hb
   (try clear hb)
   (try clear hk)
   refine ho_ hK (f4_ b.out (f4_ d.out (e4_ a.out))) (fun j => ?_)
   iterate 14 refine p_ T ?_
   iterate 3 refine t0_ T Cb j ?_
   refine o1_ 23 (b_ 24 14) T (fun K hK => ?_)
   refine gs_ Tryz.func24 #[.agg #[.slice eb da.length fb, .int .i64 Oa, .int .i64 Pa, .string Qa], .agg #[.slice qa O.length ma, .int .i64 ja, .int .i64 ka, .string la]] ?_
   with_reducible refine (impl_Merge.calls _ _ da Oa Pa Qa _ _ O ja ka la sc tc uc vc _ ?side1 ?side2 ?side3 ?side4 Pf.out).mono ?_
   (case side1 => exact cp_ ((Kd.R_reads' y.out).2.2))
   (case side2 => exact (Kd.R_reads' y.out).2.1)
   (case side3 => exact cp_ ((Kd.R_reads' q.out).2.2))
   (case side4 => exact (Kd.R_reads' q.out).2.1)
   rintro e ph ⟨Rf, rfl, ha, hb⟩
   refine ⟨_, rfl, ?_⟩
   obtain ⟨qe, Ra⟩ := Kd.R_name ha
   replace s := su_ Ra (sp_ s.out) hb
   replace q := ru_ Ra (rp_ q.out) hb
   replace t := su_ Ra (sp_ t.out) hb
   replace y := ru_ Ra (rp_ y.out) hb
   replace B := ru_ Ra (rp_ B.out) hb
   replace Q := su_ Ra (sp_ Q.out) hb
   have pb := rg_ Ra ha V
   replace a := bk2_ a hb
   replace d := bk2_ d hb
   replace b := bk2_ b hb
   replace V := st_ V hb
   (try clear hb)
   (try clear hk)
   (try clear ha)
   obtain ⟨re, se, yd⟩ := Kd.R_slice pb.out
   (first | subst yd | (obtain ⟨rfl, rfl⟩ := si_ yd))
   refine ho_ hK (f4_ b.out (f4_ d.out (e4_ a.out))) (fun j => ?_)
   refine o1_ 24 (b_ 25 13) T (fun K hK => ?_)
   refine gs_ Tryz.func19 #[.agg #[.slice Ba aa.length Ca, .int .i64 ra, .int .i64 sa, .string ta], .agg #[.slice re sc.length se, .int .i64 tc, .int .i64 uc, .string vc]] ?_
   with_reducible refine (impl_SameAlarm.calls k _ _ aa ra sa ta _ _ sc tc uc vc true _ ?side1 ?side2 ?side3 ?side4 Qf.out).mono ?_
   (case side1 => exact cp_ ((Kd.R_reads' B.out).2.2))
   (case side2 => exact (Kd.R_reads' B.out).2.1)
   (case side3 => exact cp_ ((Kd.R_reads' pb.out).2.2))
   (case side4 => exact (Kd.R_reads' pb.out).2.1)
   rintro e qh ⟨rfl, hb⟩
   refine ⟨_, rfl, ?_⟩
   replace s := sb_ s hb
   replace q := rb_ q hb
   replace t := sb_ t hb
   replace y := rb_ y hb
   replace B := rb_ B hb
   replace Q := sb_ Q hb
   replace pb := rb_ pb hb
   replace a := bk2_ a hb
   replace d := bk2_ d hb
   replace b := bk2_ b hb
   replace V := st_ V hb
   (try clear hb)
   (try clear hk)
   refine ho_ hK (f4_ b.out (f4_ d.out (e4_ a.out))) (fun j => ?_)
   iterate 7 refine p_ T ?_
   iterate 4 refine v_ T ?_
   iterate 2 refine p_ T ?_
   refine done_ (done_of T.out (by kernel_rfl)) ?_
   try go_wp2
   go_meet
   case rel => exact ⟨_, (false), rs_, H', ⟨by first | omega | exact Nat.le_refl _⟩, ⟨Kd.S_mono (sp_ s.out) (fun _ hk => ⟨hk.1.1.1.1.1.1.1.2, ⟨hk.1.1.1.1.2, ⟨hk.1.1.2, ⟨hk.1.1.1.1.1.1.1.1.2, ⟨hk.1.1.1.1.1.1.2, ⟨hk.1.1.1.1.1.2, ⟨hk.1.1.1.2, hk.1.2⟩⟩⟩⟩⟩⟩⟩)⟩, ⟨Kd.S_mono (sp_ t.out) (fun _ hk => ⟨hk.1.1.1.1.1.1.2, ⟨hk.1.1.1.1.2, ⟨hk.1.1.2, ⟨hk.1.1.1.1.1.1.1.2, ⟨hk.1.1.1.1.1.2, ⟨hk.1.1.1.2, hk.1.2⟩⟩⟩⟩⟩⟩)⟩, ⟨Kd.S_mono (sp_ Q.out) (fun _ hk => ⟨hk.1.1.1.2, ⟨hk.1.1.2, ⟨hk.1.2, hk.1.1.1.1.2⟩⟩⟩)⟩, ⟨Kd.R_mono (rp_ q.out) (fun _ hk => ⟨hk.1.1.1.1.1.2, ⟨hk.1.1.1.1.2, ⟨hk.1.1.1.2, ⟨hk.1.1.2, hk.1.2⟩⟩⟩⟩)⟩, ⟨Kd.R_mono (rp_ y.out) (fun _ hk => ⟨hk.1.1.1.2, ⟨hk.1.1.2, hk.1.2⟩⟩)⟩, ⟨Kd.R_mono (rp_ B.out) (fun _ hk => ⟨hk.1.1.2, hk.1.2⟩)⟩, ⟨bq_ a.out⟩, ⟨bq_ d.out⟩, ⟨bq_ b.out⟩, ⟨hs_ V.out⟩⟩
  replace H := bi_ H; obtain ⟨Rb, Sf, H⟩ := H
  have H' := Aside0.mk H
  clear H
  try go_wp2
  replace s := Aside0.mk (Kd.S_drew s.out)
  replace q := Aside0.mk (Kd.R_drew q.out)
  replace t := Aside0.mk (Kd.S_drew t.out)
  replace y := Aside0.mk (Kd.R_drew y.out)
  replace B := Aside0.mk (Kd.R_drew B.out)
  replace Q := Aside0.mk (Kd.S_drew Q.out)
  replace a := Aside0.mk (blk_drew a.out)
  replace d := Aside0.mk (blk_drew d.out)
  replace b := Aside0.mk (blk_drew b.out)
  replace V := Aside0.mk (bd_ V.out)
  refine start_ (n := 38) (S := fun w' => w'.cell? ⟨E, 0, none⟩ = some (.slice Ba aa.length Ca) ∧ w'.cell? ⟨E, 1, none⟩ = some (.int .i64 ra) ∧ w'.cell? ⟨E, 2, none⟩ = some (.int .i64 sa) ∧ w'.cell? ⟨E, 3, none⟩ = some (.string ta) ∧ w'.cell? ⟨A, 0, none⟩ = some (.slice qa O.length ma) ∧ w'.cell? ⟨A, 1, none⟩ = some (.int .i64 ja) ∧ w'.cell? ⟨A, 2, none⟩ = some (.int .i64 ka) ∧ w'.cell? ⟨A, 3, none⟩ = some (.string la)) (ds := []) (b_ 0 38) (by kernel_rfl) rfl rfl ⟨bx_ b.out 0, bx_ b.out 1, bx_ b.out 2, bx_ b.out 3, bx_ a.out 0, bx_ a.out 1, bx_ a.out 2, bx_ a.out 3⟩ (fun j => ?_); refine with_tabW laws_FnStores.tab8 laws_FnStores.bits8 (fun T Cb => ?_)
  generalize ne.drew = rh at s q t y B Q a d b V j ⊢
  refine p_ T ?_
  refine o1_ 1 (b_ 2 36) T (fun K hK => ?_)
  refine gs_ Tryz.func32 #[.slice zb X.length nb] ?_
  with_reducible refine (impl_StoreOk.calls k _ _ X true _ ?side1 ?side2 oe.out).mono ?_
  (case side1 => exact cp_ ((Kd.S_reads' s.out).2.2))
  (case side2 => exact (Kd.S_reads' s.out).2.1)
  rintro e sh ⟨rfl, hb⟩
  refine ⟨_, rfl, ?_⟩
  replace s := sb_ s hb
  replace q := rb_ q hb
  replace t := sb_ t hb
  replace y := rb_ y hb
  replace B := rb_ B hb
  replace Q := sb_ Q hb
  replace a := bk2_ a hb
  replace d := bk2_ d hb
  replace b := bk2_ b hb
  replace V := st_ V hb
  (try clear hb)
  (try clear hk)
  refine ho_ hK (f4_ b.out (e4_ a.out)) (fun j => ?_)
  iterate 3 refine p_ T ?_
  refine o1_ 5 (b_ 6 32) T (fun K hK => ?_)
  refine gs_ Tryz.func32 #[.slice cb L.length Aa] ?_
  with_reducible refine (impl_StoreOk.calls k _ _ L true _ ?side1 ?side2 pe.out).mono ?_
  (case side1 => exact cp_ ((Kd.S_reads' t.out).2.2))
  (case side2 => exact (Kd.S_reads' t.out).2.1)
  rintro e th ⟨rfl, hb⟩
  refine ⟨_, rfl, ?_⟩
  replace s := sb_ s hb
  replace q := rb_ q hb
  replace t := sb_ t hb
  replace y := rb_ y hb
  replace B := rb_ B hb
  replace Q := sb_ Q hb
  replace a := bk2_ a hb
  replace d := bk2_ d hb
  replace b := bk2_ b hb
  replace V := st_ V hb
  (try clear hb)
  (try clear hk)
  refine ho_ hK (f4_ b.out (e4_ a.out)) (fun j => ?_)
  iterate 14 refine p_ T ?_
  iterate 6 refine v_ T ?_
  iterate 6 refine p_ T ?_
  iterate 2 refine t0_ T Cb j ?_
  refine o1_ 34 (b_ 35 3) T (fun K hK => ?_)
  refine gs_ Tryz.func19 #[.agg #[.slice Ba aa.length Ca, .int .i64 ra, .int .i64 sa, .string ta], .agg #[.slice qa O.length ma, .int .i64 ja, .int .i64 ka, .string la]] ?_
  with_reducible refine (impl_SameAlarm.calls k _ _ aa ra sa ta _ _ O ja ka la Rb _ ?side1 ?side2 ?side3 ?side4 Sf.out).mono ?_
  (case side1 => exact cp_ ((Kd.R_reads' B.out).2.2))
  (case side2 => exact (Kd.R_reads' B.out).2.1)
  (case side3 => exact cp_ ((Kd.R_reads' q.out).2.2))
  (case side4 => exact (Kd.R_reads' q.out).2.1)
  rintro e uh ⟨rfl, hb⟩
  refine ⟨_, rfl, ?_⟩
  replace s := sb_ s hb
  replace q := rb_ q hb
  replace t := sb_ t hb
  replace y := rb_ y hb
  replace B := rb_ B hb
  replace Q := sb_ Q hb
  replace a := bk2_ a hb
  replace d := bk2_ d hb
  replace b := bk2_ b hb
  replace V := st_ V hb
  (try clear hb)
  (try clear hk)
  refine ho_ hK (f4_ b.out (e4_ a.out)) (fun j => ?_)
  iterate 3 refine p_ T ?_
  refine done_ (done_of T.out (by kernel_rfl)) ?_
  try go_wp2
  go_meet
  case rel => exact ⟨_, (!Rb), rs_, H', ⟨by first | omega | exact Nat.le_refl _⟩, ⟨Kd.S_mono (sp_ s.out) (fun _ hk => ⟨hk.1.1.1.1.1.1.2, ⟨hk.1.1.1.2, ⟨hk.1.2, ⟨hk.1.1.1.1.1.1.1.2, ⟨hk.1.1.1.1.1.2, ⟨hk.1.1.1.1.2, ⟨hk.1.1.2, hk.2⟩⟩⟩⟩⟩⟩⟩)⟩, ⟨Kd.S_mono (sp_ t.out) (fun _ hk => ⟨hk.1.1.1.1.1.2, ⟨hk.1.1.1.2, ⟨hk.1.2, ⟨hk.1.1.1.1.1.1.2, ⟨hk.1.1.1.1.2, ⟨hk.1.1.2, hk.2⟩⟩⟩⟩⟩⟩)⟩, ⟨Kd.S_mono (sp_ Q.out) (fun _ hk => ⟨hk.1.1.2, ⟨hk.1.2, ⟨hk.2, hk.1.1.1.2⟩⟩⟩)⟩, ⟨Kd.R_mono (rp_ q.out) (fun _ hk => ⟨hk.1.1.1.1.2, ⟨hk.1.1.1.2, ⟨hk.1.1.2, ⟨hk.1.2, hk.2⟩⟩⟩⟩)⟩, ⟨Kd.R_mono (rp_ y.out) (fun _ hk => ⟨hk.1.1.2, ⟨hk.1.2, hk.2⟩⟩)⟩, ⟨Kd.R_mono (rp_ B.out) (fun _ hk => ⟨hk.1.2, hk.2⟩)⟩, ⟨bq_ a.out⟩, ⟨bq_ d.out⟩, ⟨bq_ b.out⟩, ⟨hs_ V.out⟩⟩
 case rest =>
  clear Ed
  obtain ⟨kq, rc, rfl, HA, HJ8, J, F, u, l, m, o, a, d, b, V⟩ := hcut
  cases kq with
  | zero => exact absurd HA.out (by simp [laws_FnStores.j0])
  | succ te =>
   have H := HA.out
   clear HA
   simp only [laws_FnStores.j0] at H
   replace H := if_ H; obtain ⟨rfl, H⟩ := H
   have H' := Aside0.mk H
   clear H
   go_wp2
   go_loopg [12] te (fun kq Tf w' => ∃ (g : Int), Tf = .int .i64 g ∧ Aside0 (laws_FnStores.l0 kq X L db i g = some r) ∧ Aside0 (kq ≤ te) ∧ Aside0 (Kd.S k26 26 w' w.heap.size (fun k_ => k_ ≠ A ∧ k_ ≠ G ∧ k_ ≠ E ∧ ea ≤ k_ ∧ k_ < Y ∧ k_ < P ∧ k_ < M ∧ k_ < z) (.slice zb X.length nb) X) ∧ Aside0 (Kd.S k26 26 w' w.heap.size (fun k_ => k_ ≠ A ∧ k_ ≠ G ∧ k_ ≠ E ∧ Y ≤ k_ ∧ k_ < P ∧ k_ < M ∧ k_ < z) (.slice cb L.length Aa) L) ∧ Aside0 (Kd.S k29 29 w' w.heap.size (fun k_ => k_ ≠ A ∧ k_ ≠ G ∧ k_ ≠ E ∧ z ≤ k_) Qc i) ∧ Aside0 (Kd.R k99 99 w' w.heap.size (fun k_ => ea ≤ k_ ∧ k_ < Y ∧ k_ < P ∧ k_ < M ∧ k_ < z) (.slice qa O.length ma) O) ∧ Aside0 (Kd.R k99 99 w' w.heap.size (fun k_ => P ≤ k_ ∧ k_ < M ∧ k_ < z) (.slice eb da.length fb) da) ∧ Aside0 (Kd.R k99 99 w' w.heap.size (fun k_ => M ≤ k_ ∧ k_ < z) (.slice Ba aa.length Ca) aa) ∧ Aside0 (w'.heap[A]? = some (.cells #[(.slice qa O.length ma), .int .i64 ja, .int .i64 ka, .string la] 29 (0, 0))) ∧ Aside0 (w'.heap[G]? = some (.cells #[(.slice eb da.length fb), .int .i64 Oa, .int .i64 Pa, .string Qa] 29 (0, 0))) ∧ Aside0 (w'.heap[E]? = some (.cells #[(.slice Ba aa.length Ca), .int .i64 ra, .int .i64 sa, .string ta] 29 (0, 0))) ∧ Aside0 (Below w.heap.size w w'))
   case atStart => exact ⟨(0), rs_, H', ⟨Nat.le_refl _⟩, ⟨sp_ J.out⟩, ⟨sp_ F.out⟩, ⟨sp_ u.out⟩, ⟨rp_ l.out⟩, ⟨rp_ m.out⟩, ⟨rp_ o.out⟩, ⟨bq_ a.out⟩, ⟨bq_ d.out⟩, ⟨bq_ b.out⟩, ⟨hs_ V.out⟩⟩
   case round =>
    clear H'
    obtain ⟨g, rfl, HA, rd, J, F, u, l, m, o, a, d, b, V⟩ := hrel
    cases gk with
    | zero => exact absurd HA.out (by simp [laws_FnStores.l0])
    | succ k2 =>
     have H := HA.out
     clear HA
     simp only [laws_FnStores.l0] at H
     replace H := ie_ H; rcases H with ⟨Tc, H⟩ | ⟨Tc, H⟩
     ·
      have Gd := decide_eq_true Tc
      clear Tc
      replace H := id_ H; obtain ⟨Uf, H⟩ := H
      replace H := bi_ H; obtain ⟨⟨ga, ua, va, wa, Vf⟩, Hd, H⟩ := H; (try dsimp only at H)
      replace H := in_ H; obtain ⟨rfl, H⟩ := H
      replace H := bi_ H; obtain ⟨Wf, Id, H⟩ := H
      replace H := in_ H; obtain ⟨rfl, H⟩ := H
      replace H := ie_ H; rcases H with ⟨Uc, H⟩ | ⟨Uc, H⟩
      ·
       have Jd : decide (0 < g) = true := decide_eq_true Uc
       clear Uc
       obtain ⟨fa, sb⟩ : ∃ j_ : Int, (wrap64 (g - 1)) = j_ := ⟨_, rfl⟩
       replace H : (if 0 ≤ (fa) then (if (fa) < (i.length : Int) then ((impl_SetLess.f k2 ((rd_T29 i (fa)).f0) ((rd_T29 i g).f0)).bind fun Vc => (if Vc = true then (laws_FnStores.l0 k2 X L db i (wrap64 (g + 1))) else (none))) else (none)) else (none)) = some r := by first | (rw [sb] at H; exact H) | (simp only [sb] at H ⊢; exact H)
       (try rw [sb] at Hd)
       (try rw [sb] at Id)
       have He : (IntKind.i64.wrap (g - 1)) = fa := (i64_w _).trans sb
       replace H := id_ H; obtain ⟨Xf, H⟩ := H
       replace H := id_ H; obtain ⟨Yf, H⟩ := H
       replace H := bi_ H; obtain ⟨Vc, Zf, H⟩ := H
       replace H := in_ H; obtain ⟨rfl, H⟩ := H
       have H' := Aside0.mk H
       clear H
       obtain ⟨Tg, zd, ue⟩ := Kd.S_slice u.out
       subst ue
       obtain ⟨Sa, Ta⟩ : 0 ≤ (g : Int) ∧ g < (i.length : Int) := pq_
       obtain ⟨v, gb, ib, yc, tb, Dc, Ec, Fc, Da, Ea⟩ := at_T29 (Kd.S_reads' u.out).2.2 g Sa Ta
       cases yc
       obtain ⟨sd, Db, Eb, jb⟩ := Kd.S_get u.out z29 g Sa (by first | exact Ta | exact of_decide_eq_true (by with_reducible assumption) | (have e_ := (Kd.S_reads' u.out).1; omega))
       obtain ⟨Gc, rfl, na⟩ := k29_openM Eb
       have ba := jb 0 _ rfl
       rw [Nat.add_zero] at ba
       replace ba := Option.some.inj (ba.symm.trans tb)
       rw [ba] at na
       have x := Aside0.mk (show Kd.R k99 99 _ _ _ _ ((rd_T29 i g).f0) from na)
       clear ba na jb Db
       have N := Aside0.mk Ea
       have ub := Aside0.mk Da
       clear Ea Da
       replace Sa := eq_true Sa; replace Ta := eq_true Ta
       try go_wp2_with (first | ((with_reducible refine gate_callee (f := 30) rfl ?_); refine gl_ (some 96) Tryz.func30 #[.slice cb L.length Aa, .slice gb ((rd_T29 i g).f0).length ib] ?_; (with_reducible refine (impl_FindAlarm.calls k2 _ _ L _ _ ((rd_T29 i g).f0) ga ua va wa true _ ?side1 ?side2 ?side3 ?side4 Hd.out).mono ?_); (case side1 => exact cp_ ((Kd.S_reads' F.out).2.2)); (case side2 => exact (Kd.S_reads' F.out).2.1); (case side3 => repeat (first | exact (by repeat (first | (with_reducible exact N.out) | (with_reducible first | refine ca_ ?_ _ | refine cn_ ?_ _ | refine cd_ ?_) | exact N.out)) | (with_reducible first | refine ca_ ?_ _ | refine cn_ ?_ _ | refine cd_ ?_))); (case side4 => exact ub.out); rintro e vh ⟨Ld, rfl, ha, hb⟩; refine ⟨_, rfl, ?_⟩; obtain ⟨U, Z⟩ := Kd.R_name ha; replace J := su_ Z (sp_ J.out) hb; replace F := su_ Z (sp_ F.out) hb; replace u := su_ Z (sp_ u.out) hb; replace l := ru_ Z (rp_ l.out) hb; replace m := ru_ Z (rp_ m.out) hb; replace o := ru_ Z (rp_ o.out) hb; replace x := ru_ Z (rp_ x.out) hb; have I := rg_ Z ha V; replace a := bk2_ a hb; replace d := bk2_ d hb; replace b := bk2_ b hb; replace N := Aside0.mk (Kd.C_below (by repeat (first | (with_reducible exact N.out) | (with_reducible first | refine ca_ ?_ _ | refine cn_ ?_ _ | refine cd_ ?_) | exact N.out)) hb); replace V := st_ V hb; (try clear hb); (try clear hk); (try clear ha)) | ((with_reducible refine gd_ 13 rfl ?_); refine bv_ 13 #[.slice none 0 0, .int .i64 0, .int .i64 0, .string (⟨#[]⟩ : ByteArray)] 29 ?_; intro D hg ag za hb; replace J := se_ J hg hb; replace F := se_ F hg hb; replace u := se_ u hg hb; replace l := rb_ l hb; replace m := rb_ m hb; replace o := rb_ o hb; replace x := rb_ x hb; replace I := rb_ I hb; replace N := Aside0.mk (Kd.C_below (by repeat (first | (with_reducible exact N.out) | (with_reducible first | refine ca_ ?_ _ | refine cn_ ?_ _ | refine cd_ ?_) | exact N.out)) hb); have p := Aside0.mk (za); have td := gq_ hg V; have ud := gq_ hg V; replace V := st_ V hb; obtain ⟨Ua, Va, a⟩ := nb_ a hg hb; obtain ⟨Wa, Xa, d⟩ := nb_ d hg hb; obtain ⟨Ya, Za, b⟩ := nb_ b hg hb; clear hb za hg; obtain ⟨gc, hc, ve⟩ := Kd.R_slice I.out; subst ve; have bg := Va.out; have cg := Ua.out; have dg := Xa.out; have eg := Wa.out; have fg := Za.out; have gg := Ya.out; obtain ⟨ig, jg, kg, lg, mg, ng, og, pg⟩ := bc4_ p.out))
       generalize hw_ : ((((ag.setCell ⟨D, 0, none⟩ (.slice gc ga.length hc)).setCell ⟨D, 1, none⟩ (.int .i64 ua)).setCell ⟨D, 2, none⟩ (.int .i64 va)).setCell ⟨D, 3, none⟩ (.string wa)) = qb
       have Wc : Aside0 (Kd.S k26 26 qb w.heap.size (fun k_ => k_ ≠ A ∧ k_ ≠ G ∧ k_ ≠ E ∧ ea ≤ k_ ∧ k_ < Y ∧ k_ < P ∧ k_ < M ∧ k_ < z ∧ k_ < U ∧ k_ ≠ D) (.slice zb X.length nb) X) := ⟨by rw [← hw_]; exact (Kd.S_mono (sf_ D J.out (fun _ hk => hk.2)) (fun _ hk => ⟨hk.1.1.1, ⟨hk.1.1.2.1, ⟨hk.1.1.2.2.1, ⟨hk.1.1.2.2.2.1, ⟨hk.1.1.2.2.2.2.1, ⟨hk.1.1.2.2.2.2.2.1, ⟨hk.1.1.2.2.2.2.2.2.1, ⟨hk.1.1.2.2.2.2.2.2.2, ⟨hk.1.2, hk.2⟩⟩⟩⟩⟩⟩⟩⟩⟩))⟩
       have Xc : Aside0 (Kd.S k26 26 qb w.heap.size (fun k_ => k_ ≠ A ∧ k_ ≠ G ∧ k_ ≠ E ∧ Y ≤ k_ ∧ k_ < P ∧ k_ < M ∧ k_ < z ∧ k_ < U ∧ k_ ≠ D) (.slice cb L.length Aa) L) := ⟨by rw [← hw_]; exact (Kd.S_mono (sf_ D F.out (fun _ hk => hk.2)) (fun _ hk => ⟨hk.1.1.1, ⟨hk.1.1.2.1, ⟨hk.1.1.2.2.1, ⟨hk.1.1.2.2.2.1, ⟨hk.1.1.2.2.2.2.1, ⟨hk.1.1.2.2.2.2.2.1, ⟨hk.1.1.2.2.2.2.2.2, ⟨hk.1.2, hk.2⟩⟩⟩⟩⟩⟩⟩⟩))⟩
       have fc : Aside0 (Kd.S k29 29 qb w.heap.size (fun k_ => k_ ≠ A ∧ k_ ≠ G ∧ k_ ≠ E ∧ z ≤ k_ ∧ k_ < U ∧ k_ ≠ D) (.slice (some v) i.length zd) i) := ⟨by rw [← hw_]; exact (Kd.S_mono (sf_ D u.out (fun _ hk => hk.2)) (fun _ hk => ⟨hk.1.1.1, ⟨hk.1.1.2.1, ⟨hk.1.1.2.2.1, ⟨hk.1.1.2.2.2, ⟨hk.1.2, hk.2⟩⟩⟩⟩⟩))⟩
       have Yc : Aside0 (Kd.R k99 99 qb w.heap.size (fun k_ => ea ≤ k_ ∧ k_ < Y ∧ k_ < P ∧ k_ < M ∧ k_ < z ∧ k_ < U) (.slice qa O.length ma) O) := ⟨by rw [← hw_]; exact (Kd.R_mono (ry_ l.out p.out) (fun _ hk => ⟨hk.1.1, ⟨hk.1.2.1, ⟨hk.1.2.2.1, ⟨hk.1.2.2.2.1, ⟨hk.1.2.2.2.2, hk.2⟩⟩⟩⟩⟩))⟩
       have Zc : Aside0 (Kd.R k99 99 qb w.heap.size (fun k_ => P ≤ k_ ∧ k_ < M ∧ k_ < z ∧ k_ < U) (.slice eb da.length fb) da) := ⟨by rw [← hw_]; exact (Kd.R_mono (ry_ m.out p.out) (fun _ hk => ⟨hk.1.1, ⟨hk.1.2.1, ⟨hk.1.2.2, hk.2⟩⟩⟩))⟩
       have ad : Aside0 (Kd.R k99 99 qb w.heap.size (fun k_ => M ≤ k_ ∧ k_ < z ∧ k_ < U) (.slice Ba aa.length Ca) aa) := ⟨by rw [← hw_]; exact (Kd.R_mono (ry_ o.out p.out) (fun _ hk => ⟨hk.1.1, ⟨hk.1.2, hk.2⟩⟩))⟩
       have bd : Aside0 (Kd.R k99 99 qb w.heap.size (fun k_ => some k_ ≠ (.slice (some v) i.length zd : Value).ownBlock ∧ k_ ≠ A ∧ k_ ≠ G ∧ k_ ≠ E ∧ z ≤ k_ ∧ k_ < U) (.slice gb ((rd_T29 i g).f0).length ib) ((rd_T29 i g).f0)) := ⟨by rw [← hw_]; exact (Kd.R_mono (ry_ x.out p.out) (fun _ hk => ⟨hk.1.2, ⟨hk.1.1.1, ⟨hk.1.1.2.1, ⟨hk.1.1.2.2.1, ⟨hk.1.1.2.2.2, hk.2⟩⟩⟩⟩⟩))⟩
       have cd : Aside0 (Kd.R k99 99 qb w.heap.size (fun k_ => U ≤ k_) (.slice gc ga.length hc) ga) := ⟨by rw [← hw_]; exact (Kd.R_mono (ry_ I.out p.out) (fun _ hk => hk.2))⟩
       have dd : Aside0 (qb.heap[A]? = some (.cells #[.slice qa O.length ma, .int .i64 ja, .int .i64 ka, .string la] 29 (0, 0))) := ⟨by rw [← hw_]; exact (bq_ a.out)⟩
       have ed : Aside0 (qb.heap[G]? = some (.cells #[.slice eb da.length fb, .int .i64 Oa, .int .i64 Pa, .string Qa] 29 (0, 0))) := ⟨by rw [← hw_]; exact (bq_ d.out)⟩
       have ic : Aside0 (qb.heap[E]? = some (.cells #[.slice Ba aa.length Ca, .int .i64 ra, .int .i64 sa, .string ta] 29 (0, 0))) := ⟨by rw [← hw_]; exact (bq_ b.out)⟩
       have jc : Aside0 (qb.heap[D]? = some (.cells #[.slice gc ga.length hc, .int .i64 ua, .int .i64 va, .string wa] 29 (0, 0))) := ⟨by rw [← hw_]; exact (bp_ p.out)⟩
       have kc : Aside0 (Below w.heap.size w qb) := ⟨by rw [← hw_]; exact (hs_ V.out)⟩
       clear hw_
       (try clear J)
       (try clear F)
       (try clear u)
       (try clear l)
       (try clear m)
       (try clear o)
       (try clear x)
       (try clear I)
       (try clear a)
       (try clear d)
       (try clear b)
       (try clear p)
       (try clear V)
       have J := Wc
       have F := Xc
       have u := fc
       have l := Yc
       have m := Zc
       have o := ad
       have x := bd
       have I := cd
       have a := dd
       have d := ed
       have b := ic
       have p := jc
       have V := kc
       clear Wc Xc fc Yc Zc ad bd cd dd ed ic jc kc
       replace J := Aside0.mk (Kd.S_drew J.out)
       replace F := Aside0.mk (Kd.S_drew F.out)
       replace u := Aside0.mk (Kd.S_drew u.out)
       replace l := Aside0.mk (Kd.R_drew l.out)
       replace m := Aside0.mk (Kd.R_drew m.out)
       replace o := Aside0.mk (Kd.R_drew o.out)
       replace x := Aside0.mk (Kd.R_drew x.out)
       replace I := Aside0.mk (Kd.R_drew I.out)
       replace a := Aside0.mk (blk_drew a.out)
       replace d := Aside0.mk (blk_drew d.out)
       replace b := Aside0.mk (blk_drew b.out)
       replace p := Aside0.mk (blk_drew p.out)
       replace V := Aside0.mk (bd_ V.out)
       obtain ⟨ab, bb⟩ : 0 ≤ (g : Int) ∧ g < (i.length : Int) := pq_
       obtain ⟨ac, xa, ya, zc, ia, Fa, Ga, Ha, Ia, Ja⟩ := at_T29 (Kd.S_reads' u.out).2.2 g ab bb
       obtain rfl : v = ac := (by injection zc)
       obtain ⟨vd, Fb, Gb, kb⟩ := Kd.S_get u.out z29 g ab (by first | exact bb | exact of_decide_eq_true (by with_reducible assumption) | (have e_ := (Kd.S_reads' u.out).1; omega))
       obtain ⟨Hc, rfl, oa⟩ := k29_openM Gb
       have ca := kb 0 _ rfl
       rw [Nat.add_zero] at ca
       replace ca := Option.some.inj (ca.symm.trans ia)
       rw [ca] at oa
       have pa := Aside0.mk (show Kd.R k99 99 _ _ _ _ ((rd_T29 i g).f0) from oa)
       clear ca oa kb Fb
       have W := Aside0.mk Ja
       have vb := Aside0.mk Ia
       clear Ja Ia
       replace ab := eq_true ab; replace bb := eq_true bb
       obtain ⟨bc, cc⟩ : 0 ≤ ((fa) : Int) ∧ (fa) < (i.length : Int) := pq_
       obtain ⟨wd, lc, mc, Md, wb, Hb, Ib, Jb, Kb, Lb⟩ := at_T29 (Kd.S_reads' u.out).2.2 (fa) bc cc
       obtain rfl : v = wd := (by injection Md)
       obtain ⟨Ie, fd, gd, nc⟩ := Kd.S_get u.out z29 (fa) bc (by first | exact cc | exact of_decide_eq_true (by with_reducible assumption) | (have e_ := (Kd.S_reads' u.out).1; omega))
       obtain ⟨be, rfl, xb⟩ := k29_openM gd
       have Ka := nc 0 _ rfl
       rw [Nat.add_zero] at Ka
       replace Ka := Option.some.inj (Ka.symm.trans wb)
       rw [Ka] at xb
       have Ic := Aside0.mk (show Kd.R k99 99 _ _ _ _ ((rd_T29 i (fa)).f0) from xb)
       clear Ka xb nc fd
       have La := Aside0.mk Lb
       have Jc := Aside0.mk Kb
       clear Lb Kb
       replace bc := eq_true bc; replace cc := eq_true cc
       obtain ⟨dc, ec⟩ : 0 ≤ (g : Int) ∧ g < (i.length : Int) := pq_
       obtain ⟨xd, we, xe, Nd, mb, Mb, Nb, Ob, Pb, Qb⟩ := at_T29 (Kd.S_reads' u.out).2.2 g dc ec
       obtain rfl : v = xd := (by injection Nd)
       obtain ⟨Je, hd, jd, oc⟩ := Kd.S_get u.out z29 g dc (by first | exact ec | exact of_decide_eq_true (by with_reducible assumption) | (have e_ := (Kd.S_reads' u.out).1; omega))
       obtain ⟨ce, rfl, yb⟩ := k29_openM jd
       have Ma := oc 0 _ rfl
       rw [Nat.add_zero] at Ma
       replace Ma := Option.some.inj (Ma.symm.trans mb)
       rw [Ma] at yb
       have Kc := Aside0.mk (show Kd.R k99 99 _ _ _ _ ((rd_T29 i g).f0) from yb)
       clear Ma yb oc hd
       have Na := Aside0.mk Qb
       have Lc := Aside0.mk Pb
       clear Qb Pb
       replace dc := eq_true dc; replace ec := eq_true ec
       have ea_ := Option.some.inj (ia.symm.trans mb)
       injection ea_ with ea_ en_ ec_
       subst ea_
       subst ec_
       clear en_
       refine start_ (n := 30) (S := fun w' => w'.cell? ⟨D, 0, none⟩ = some (.slice gc ga.length hc) ∧ w'.cell? ⟨D, 1, none⟩ = some (.int .i64 ua) ∧ w'.cell? ⟨D, 2, none⟩ = some (.int .i64 va) ∧ w'.cell? ⟨D, 3, none⟩ = some (.string wa) ∧ w'.cell? (v.add ((g).toNat * 4)) = some (.slice xa ((rd_T29 i g).f0).length ya) ∧ w'.cell? ⟨(v.add ((g).toNat * 4)).block, (v.add ((g).toNat * 4)).off + 1, none⟩ = some (.int .i64 ((rd_T29 i g).f1)) ∧ w'.cell? ⟨(v.add ((g).toNat * 4)).block, (v.add ((g).toNat * 4)).off + 2, none⟩ = some (.int .i64 ((rd_T29 i g).f2)) ∧ w'.cell? ⟨(v.add ((g).toNat * 4)).block, (v.add ((g).toNat * 4)).off + 3, none⟩ = some (.string ((rd_T29 i g).f3)) ∧ w'.cell? (v.add (((fa)).toNat * 4)) = some (.slice lc ((rd_T29 i (fa)).f0).length mc) ∧ w'.cell? ⟨(v.add (((fa)).toNat * 4)).block, (v.add (((fa)).toNat * 4)).off + 1, none⟩ = some (.int .i64 ((rd_T29 i (fa)).f1)) ∧ w'.cell? ⟨(v.add (((fa)).toNat * 4)).block, (v.add (((fa)).toNat * 4)).off + 2, none⟩ = some (.int .i64 ((rd_T29 i (fa)).f2)) ∧ w'.cell? ⟨(v.add (((fa)).toNat * 4)).block, (v.add (((fa)).toNat * 4)).off + 3, none⟩ = some (.string ((rd_T29 i (fa)).f3)) ∧ w'.cell? (v.add ((g).toNat * 4)) = some (.slice xa ((rd_T29 i g).f0).length ya) ∧ w'.cell? ⟨(v.add ((g).toNat * 4)).block, (v.add ((g).toNat * 4)).off + 1, none⟩ = some (.int .i64 ((rd_T29 i g).f1)) ∧ w'.cell? ⟨(v.add ((g).toNat * 4)).block, (v.add ((g).toNat * 4)).off + 2, none⟩ = some (.int .i64 ((rd_T29 i g).f2)) ∧ w'.cell? ⟨(v.add ((g).toNat * 4)).block, (v.add ((g).toNat * 4)).off + 3, none⟩ = some (.string ((rd_T29 i g).f3))) (ds := []) (b_ 0 30) (by kernel_rfl) rfl rfl ⟨bx_ p.out 0, bx_ p.out 1, bx_ p.out 2, bx_ p.out 3, ia, Fa, Ga, Ha, wb, Hb, Ib, Jb, mb, Mb, Nb, Ob⟩ (fun j => ?_); refine with_tabW laws_FnStores.tab14 laws_FnStores.bits14 (fun T Cb => ?_)
       generalize qb.drew = wh at J F u l m o x I a d b p V pa Ic Kc W La Na ia Fa Ga Ha wb Hb Ib Jb mb Mb Nb Ob j ⊢
       iterate 3 refine p_ T ?_
       refine qw_ 4 (m_ 30 23) T ?_
       refine qw_ 5 (m_ 30 55) T ?_
       refine qw_ 6 (m_ 30 119) T ?_
       refine qt_ 3 (b_ 7 23) T Cb j ?_
       refine t0_ T Cb j ?_
       refine o1_ 8 (b_ 9 21) T (fun K hK => ?_)
       refine gs_ Tryz.func19 #[.agg #[.slice gc ga.length hc, .int .i64 ua, .int .i64 va, .string wa], .agg #[.slice xa ((rd_T29 i g).f0).length ya, .int .i64 ((rd_T29 i g).f1), .int .i64 ((rd_T29 i g).f2), .string ((rd_T29 i g).f3)]] ?_
       with_reducible refine (impl_SameAlarm.calls k2 _ _ ga ua va wa _ _ ((rd_T29 i g).f0) ((rd_T29 i g).f1) ((rd_T29 i g).f2) ((rd_T29 i g).f3) true _ ?side1 ?side2 ?side3 ?side4 Id.out).mono ?_
       (case side1 => exact cp_ ((Kd.R_reads' I.out).2.2))
       (case side2 => exact (Kd.R_reads' I.out).2.1)
       (case side3 => repeat (first | exact (by repeat (first | (with_reducible exact W.out) | (with_reducible first | refine ca_ ?_ _ | refine cn_ ?_ _ | refine cd_ ?_) | exact W.out)) | (with_reducible first | refine ca_ ?_ _ | refine cn_ ?_ _ | refine cd_ ?_)))
       (case side4 => exact vb.out)
       rintro e xh ⟨rfl, hb⟩
       have kd := (hb.cell (World.block_lt_of_cell? _ _ (j.2.2.2.2.1))).trans (j.2.2.2.2.1)
       have ld := (hb.cell (World.block_lt_of_cell? _ _ (j.2.2.2.2.2.1))).trans (j.2.2.2.2.2.1)
       have md := (hb.cell (World.block_lt_of_cell? _ _ (j.2.2.2.2.2.2.1))).trans (j.2.2.2.2.2.2.1)
       have od := (hb.cell (World.block_lt_of_cell? _ _ (j.2.2.2.2.2.2.2.1))).trans (j.2.2.2.2.2.2.2.1)
       have ye := (hb.cell (World.block_lt_of_cell? _ _ (j.2.2.2.2.2.2.2.2.1))).trans (j.2.2.2.2.2.2.2.2.1)
       have ze := (hb.cell (World.block_lt_of_cell? _ _ (j.2.2.2.2.2.2.2.2.2.1))).trans (j.2.2.2.2.2.2.2.2.2.1)
       have Od := (hb.cell (World.block_lt_of_cell? _ _ (j.2.2.2.2.2.2.2.2.2.2.1))).trans (j.2.2.2.2.2.2.2.2.2.2.1)
       have Pd := (hb.cell (World.block_lt_of_cell? _ _ (j.2.2.2.2.2.2.2.2.2.2.2.1))).trans (j.2.2.2.2.2.2.2.2.2.2.2.1)
       have Qd := (hb.cell (World.block_lt_of_cell? _ _ (j.2.2.2.2.2.2.2.2.2.2.2.2.1))).trans (j.2.2.2.2.2.2.2.2.2.2.2.2.1)
       have Rd := (hb.cell (World.block_lt_of_cell? _ _ (j.2.2.2.2.2.2.2.2.2.2.2.2.2.1))).trans (j.2.2.2.2.2.2.2.2.2.2.2.2.2.1)
       have Sd := (hb.cell (World.block_lt_of_cell? _ _ (j.2.2.2.2.2.2.2.2.2.2.2.2.2.2.1))).trans (j.2.2.2.2.2.2.2.2.2.2.2.2.2.2.1)
       have Td := (hb.cell (World.block_lt_of_cell? _ _ (j.2.2.2.2.2.2.2.2.2.2.2.2.2.2.2))).trans (j.2.2.2.2.2.2.2.2.2.2.2.2.2.2.2)
       refine ⟨_, rfl, ?_⟩
       replace La := Aside0.mk (Kd.C_below La.out hb)
       replace Na := Aside0.mk (Kd.C_below Na.out hb)
       replace J := sb_ J hb
       replace F := sb_ F hb
       replace u := sb_ u hb
       replace l := rb_ l hb
       replace m := rb_ m hb
       replace o := rb_ o hb
       replace x := rb_ x hb
       replace I := rb_ I hb
       replace pa := rb_ pa hb
       replace a := bk2_ a hb
       replace d := bk2_ d hb
       replace b := bk2_ b hb
       replace p := bk2_ p hb
       replace W := Aside0.mk (Kd.C_below (by repeat (first | (with_reducible exact W.out) | (with_reducible first | refine ca_ ?_ _ | refine cn_ ?_ _ | refine cd_ ?_) | exact W.out)) hb)
       replace V := st_ V hb
       (try clear hb)
       (try clear hk)
       refine ho_ hK ⟨bx_ p.out 0, bx_ p.out 1, bx_ p.out 2, bx_ p.out 3, kd, ld, md, od, ye, ze, Od, Pd, Qd, Rd, Sd, Td⟩ (fun j => ?_)
       iterate 11 refine p_ T ?_
       refine qw_ 21 (m_ 30 3145727) T ?_
       refine qw_ 22 (m_ 30 7340031) T ?_
       refine qw_ 23 (m_ 30 15728639) T ?_
       refine qw_ 24 (m_ 30 32505855) T ?_
       refine qt_ 20 (b_ 25 5) T Cb j ?_
       refine t0_ T Cb j ?_
       refine o1_ 26 (b_ 27 3) T (fun K hK => ?_)
       refine goes_ Tryz.func33 (by kernel_rfl) rfl #[.slice lc ((rd_T29 i (fa)).f0).length mc, .slice xa ((rd_T29 i g).f0).length ya] (by rfl) rfl rfl (by (try simp only [mp_]); first | done | (simp only [sb]; rfl) | rfl | (simp only [List.length_drop, List.length_take]; rfl)) ?_
       with_reducible refine (impl_SetLess.calls k2 _ _ ((rd_T29 i (fa)).f0) _ _ ((rd_T29 i g).f0) true _ ?side1 ?side2 ?side3 ?side4 Zf.out).mono ?_
       (case side1 => repeat (first | exact (by repeat (first | (with_reducible exact La.out) | (with_reducible first | refine ca_ ?_ _ | refine cn_ ?_ _ | refine cd_ ?_) | exact La.out)) | (with_reducible first | refine ca_ ?_ _ | refine cn_ ?_ _ | refine cd_ ?_)))
       (case side2 => exact Jc.out)
       (case side3 => repeat (first | exact (by repeat (first | (with_reducible exact Na.out) | (with_reducible first | refine ca_ ?_ _ | refine cn_ ?_ _ | refine cd_ ?_) | exact Na.out)) | (with_reducible first | refine ca_ ?_ _ | refine cn_ ?_ _ | refine cd_ ?_)))
       (case side4 => exact Lc.out)
       rintro e w' ⟨rfl, ⟨nd, rfl⟩⟩
       refine ⟨_, rfl, ?_⟩
       refine ho_ hK ⟨bx_ p.out 0, bx_ p.out 1, bx_ p.out 2, bx_ p.out 3, j.2.2.2.2.1, j.2.2.2.2.2.1, j.2.2.2.2.2.2.1, j.2.2.2.2.2.2.2.1, j.2.2.2.2.2.2.2.2.1, j.2.2.2.2.2.2.2.2.2.1, j.2.2.2.2.2.2.2.2.2.2.1, j.2.2.2.2.2.2.2.2.2.2.2.1, j.2.2.2.2.2.2.2.2.2.2.2.2.1, j.2.2.2.2.2.2.2.2.2.2.2.2.2.1, j.2.2.2.2.2.2.2.2.2.2.2.2.2.2.1, j.2.2.2.2.2.2.2.2.2.2.2.2.2.2.2⟩ (fun j => ?_)
       iterate 3 refine p_ T ?_
       refine done_ (done_of T.out (by kernel_rfl)) ?_
       try go_wp2
       go_roundg k2
       case measure => have := HJ8.out; have := rd.out; omega
       case rel => exact ⟨(wrap64 (g + 1)), rs_, H', ⟨by have := HJ8.out; have := rd.out; omega⟩, ⟨Kd.S_mono (sp_ J.out) (fun _ hk => ⟨hk.1, ⟨hk.2.1, ⟨hk.2.2.1, ⟨hk.2.2.2.1, ⟨hk.2.2.2.2.1, ⟨hk.2.2.2.2.2.1, ⟨hk.2.2.2.2.2.2.1, hk.2.2.2.2.2.2.2.1⟩⟩⟩⟩⟩⟩⟩)⟩, ⟨Kd.S_mono (sp_ F.out) (fun _ hk => ⟨hk.1, ⟨hk.2.1, ⟨hk.2.2.1, ⟨hk.2.2.2.1, ⟨hk.2.2.2.2.1, ⟨hk.2.2.2.2.2.1, hk.2.2.2.2.2.2.1⟩⟩⟩⟩⟩⟩)⟩, ⟨Kd.S_mono (sp_ u.out) (fun _ hk => ⟨hk.1, ⟨hk.2.1, ⟨hk.2.2.1, hk.2.2.2.1⟩⟩⟩)⟩, ⟨Kd.R_mono (rp_ l.out) (fun _ hk => ⟨hk.1, ⟨hk.2.1, ⟨hk.2.2.1, ⟨hk.2.2.2.1, hk.2.2.2.2.1⟩⟩⟩⟩)⟩, ⟨Kd.R_mono (rp_ m.out) (fun _ hk => ⟨hk.1, ⟨hk.2.1, hk.2.2.1⟩⟩)⟩, ⟨Kd.R_mono (rp_ o.out) (fun _ hk => ⟨hk.1, hk.2.1⟩)⟩, ⟨bq_ a.out⟩, ⟨bq_ d.out⟩, ⟨bq_ b.out⟩, ⟨hs_ V.out⟩⟩
      have Jd : decide (0 < g) = false := decide_eq_false Uc
      clear Uc
      have H' := Aside0.mk H
      clear H
      obtain ⟨Ug, Ad, Ae⟩ := Kd.S_slice u.out
      subst Ae
      obtain ⟨Sa, Ta⟩ : 0 ≤ (g : Int) ∧ g < (i.length : Int) := pq_
      obtain ⟨v, gb, ib, yc, tb, Dc, Ec, Fc, Da, Ea⟩ := at_T29 (Kd.S_reads' u.out).2.2 g Sa Ta
      cases yc
      obtain ⟨sd, Db, Eb, jb⟩ := Kd.S_get u.out z29 g Sa (by first | exact Ta | exact of_decide_eq_true (by with_reducible assumption) | (have e_ := (Kd.S_reads' u.out).1; omega))
      obtain ⟨Gc, rfl, na⟩ := k29_openM Eb
      have ba := jb 0 _ rfl
      rw [Nat.add_zero] at ba
      replace ba := Option.some.inj (ba.symm.trans tb)
      rw [ba] at na
      have x := Aside0.mk (show Kd.R k99 99 _ _ _ _ ((rd_T29 i g).f0) from na)
      clear ba na jb Db
      have N := Aside0.mk Ea
      have ub := Aside0.mk Da
      clear Ea Da
      replace Sa := eq_true Sa; replace Ta := eq_true Ta
      try go_wp2_with (first | ((with_reducible refine gate_callee (f := 30) rfl ?_); refine gl_ (some 96) Tryz.func30 #[.slice cb L.length Aa, .slice gb ((rd_T29 i g).f0).length ib] ?_; (with_reducible refine (impl_FindAlarm.calls k2 _ _ L _ _ ((rd_T29 i g).f0) ga ua va wa true _ ?side1 ?side2 ?side3 ?side4 Hd.out).mono ?_); (case side1 => exact cp_ ((Kd.S_reads' F.out).2.2)); (case side2 => exact (Kd.S_reads' F.out).2.1); (case side3 => repeat (first | exact (by repeat (first | (with_reducible exact N.out) | (with_reducible first | refine ca_ ?_ _ | refine cn_ ?_ _ | refine cd_ ?_) | exact N.out)) | (with_reducible first | refine ca_ ?_ _ | refine cn_ ?_ _ | refine cd_ ?_))); (case side4 => exact ub.out); rintro e yh ⟨Ld, rfl, ha, hb⟩; refine ⟨_, rfl, ?_⟩; obtain ⟨U, Z⟩ := Kd.R_name ha; replace J := su_ Z (sp_ J.out) hb; replace F := su_ Z (sp_ F.out) hb; replace u := su_ Z (sp_ u.out) hb; replace l := ru_ Z (rp_ l.out) hb; replace m := ru_ Z (rp_ m.out) hb; replace o := ru_ Z (rp_ o.out) hb; replace x := ru_ Z (rp_ x.out) hb; have I := rg_ Z ha V; replace a := bk2_ a hb; replace d := bk2_ d hb; replace b := bk2_ b hb; replace N := Aside0.mk (Kd.C_below (by repeat (first | (with_reducible exact N.out) | (with_reducible first | refine ca_ ?_ _ | refine cn_ ?_ _ | refine cd_ ?_) | exact N.out)) hb); replace V := st_ V hb; (try clear hb); (try clear hk); (try clear ha)) | ((with_reducible refine gd_ 13 rfl ?_); refine bv_ 13 #[.slice none 0 0, .int .i64 0, .int .i64 0, .string (⟨#[]⟩ : ByteArray)] 29 ?_; intro D hg qg za hb; replace J := se_ J hg hb; replace F := se_ F hg hb; replace u := se_ u hg hb; replace l := rb_ l hb; replace m := rb_ m hb; replace o := rb_ o hb; replace x := rb_ x hb; replace I := rb_ I hb; replace N := Aside0.mk (Kd.C_below (by repeat (first | (with_reducible exact N.out) | (with_reducible first | refine ca_ ?_ _ | refine cn_ ?_ _ | refine cd_ ?_) | exact N.out)) hb); have p := Aside0.mk (za); have td := gq_ hg V; have ud := gq_ hg V; replace V := st_ V hb; obtain ⟨Ua, Va, a⟩ := nb_ a hg hb; obtain ⟨Wa, Xa, d⟩ := nb_ d hg hb; obtain ⟨Ya, Za, b⟩ := nb_ b hg hb; clear hb za hg; obtain ⟨pc, qc, Be⟩ := Kd.R_slice I.out; subst Be; have rg := Va.out; have sg := Ua.out; have tg := Xa.out; have ug := Wa.out; have vg := Za.out; have wg := Ya.out; obtain ⟨xg, yg, zg, Ag, Bg, Cg, Dg, Eg⟩ := bc4_ p.out))
      generalize hw_ : ((((qg.setCell ⟨D, 0, none⟩ (.slice pc ga.length qc)).setCell ⟨D, 1, none⟩ (.int .i64 ua)).setCell ⟨D, 2, none⟩ (.int .i64 va)).setCell ⟨D, 3, none⟩ (.string wa)) = rb
      have Wc : Aside0 (Kd.S k26 26 rb w.heap.size (fun k_ => k_ ≠ A ∧ k_ ≠ G ∧ k_ ≠ E ∧ ea ≤ k_ ∧ k_ < Y ∧ k_ < P ∧ k_ < M ∧ k_ < z ∧ k_ < U ∧ k_ ≠ D) (.slice zb X.length nb) X) := ⟨by rw [← hw_]; exact (Kd.S_mono (sf_ D J.out (fun _ hk => hk.2)) (fun _ hk => ⟨hk.1.1.1, ⟨hk.1.1.2.1, ⟨hk.1.1.2.2.1, ⟨hk.1.1.2.2.2.1, ⟨hk.1.1.2.2.2.2.1, ⟨hk.1.1.2.2.2.2.2.1, ⟨hk.1.1.2.2.2.2.2.2.1, ⟨hk.1.1.2.2.2.2.2.2.2, ⟨hk.1.2, hk.2⟩⟩⟩⟩⟩⟩⟩⟩⟩))⟩
      have Xc : Aside0 (Kd.S k26 26 rb w.heap.size (fun k_ => k_ ≠ A ∧ k_ ≠ G ∧ k_ ≠ E ∧ Y ≤ k_ ∧ k_ < P ∧ k_ < M ∧ k_ < z ∧ k_ < U ∧ k_ ≠ D) (.slice cb L.length Aa) L) := ⟨by rw [← hw_]; exact (Kd.S_mono (sf_ D F.out (fun _ hk => hk.2)) (fun _ hk => ⟨hk.1.1.1, ⟨hk.1.1.2.1, ⟨hk.1.1.2.2.1, ⟨hk.1.1.2.2.2.1, ⟨hk.1.1.2.2.2.2.1, ⟨hk.1.1.2.2.2.2.2.1, ⟨hk.1.1.2.2.2.2.2.2, ⟨hk.1.2, hk.2⟩⟩⟩⟩⟩⟩⟩⟩))⟩
      have fc : Aside0 (Kd.S k29 29 rb w.heap.size (fun k_ => k_ ≠ A ∧ k_ ≠ G ∧ k_ ≠ E ∧ z ≤ k_ ∧ k_ < U ∧ k_ ≠ D) (.slice (some v) i.length Ad) i) := ⟨by rw [← hw_]; exact (Kd.S_mono (sf_ D u.out (fun _ hk => hk.2)) (fun _ hk => ⟨hk.1.1.1, ⟨hk.1.1.2.1, ⟨hk.1.1.2.2.1, ⟨hk.1.1.2.2.2, ⟨hk.1.2, hk.2⟩⟩⟩⟩⟩))⟩
      have Yc : Aside0 (Kd.R k99 99 rb w.heap.size (fun k_ => ea ≤ k_ ∧ k_ < Y ∧ k_ < P ∧ k_ < M ∧ k_ < z ∧ k_ < U) (.slice qa O.length ma) O) := ⟨by rw [← hw_]; exact (Kd.R_mono (ry_ l.out p.out) (fun _ hk => ⟨hk.1.1, ⟨hk.1.2.1, ⟨hk.1.2.2.1, ⟨hk.1.2.2.2.1, ⟨hk.1.2.2.2.2, hk.2⟩⟩⟩⟩⟩))⟩
      have Zc : Aside0 (Kd.R k99 99 rb w.heap.size (fun k_ => P ≤ k_ ∧ k_ < M ∧ k_ < z ∧ k_ < U) (.slice eb da.length fb) da) := ⟨by rw [← hw_]; exact (Kd.R_mono (ry_ m.out p.out) (fun _ hk => ⟨hk.1.1, ⟨hk.1.2.1, ⟨hk.1.2.2, hk.2⟩⟩⟩))⟩
      have ad : Aside0 (Kd.R k99 99 rb w.heap.size (fun k_ => M ≤ k_ ∧ k_ < z ∧ k_ < U) (.slice Ba aa.length Ca) aa) := ⟨by rw [← hw_]; exact (Kd.R_mono (ry_ o.out p.out) (fun _ hk => ⟨hk.1.1, ⟨hk.1.2, hk.2⟩⟩))⟩
      have bd : Aside0 (Kd.R k99 99 rb w.heap.size (fun k_ => some k_ ≠ (.slice (some v) i.length Ad : Value).ownBlock ∧ k_ ≠ A ∧ k_ ≠ G ∧ k_ ≠ E ∧ z ≤ k_ ∧ k_ < U) (.slice gb ((rd_T29 i g).f0).length ib) ((rd_T29 i g).f0)) := ⟨by rw [← hw_]; exact (Kd.R_mono (ry_ x.out p.out) (fun _ hk => ⟨hk.1.2, ⟨hk.1.1.1, ⟨hk.1.1.2.1, ⟨hk.1.1.2.2.1, ⟨hk.1.1.2.2.2, hk.2⟩⟩⟩⟩⟩))⟩
      have cd : Aside0 (Kd.R k99 99 rb w.heap.size (fun k_ => U ≤ k_) (.slice pc ga.length qc) ga) := ⟨by rw [← hw_]; exact (Kd.R_mono (ry_ I.out p.out) (fun _ hk => hk.2))⟩
      have dd : Aside0 (rb.heap[A]? = some (.cells #[.slice qa O.length ma, .int .i64 ja, .int .i64 ka, .string la] 29 (0, 0))) := ⟨by rw [← hw_]; exact (bq_ a.out)⟩
      have ed : Aside0 (rb.heap[G]? = some (.cells #[.slice eb da.length fb, .int .i64 Oa, .int .i64 Pa, .string Qa] 29 (0, 0))) := ⟨by rw [← hw_]; exact (bq_ d.out)⟩
      have ic : Aside0 (rb.heap[E]? = some (.cells #[.slice Ba aa.length Ca, .int .i64 ra, .int .i64 sa, .string ta] 29 (0, 0))) := ⟨by rw [← hw_]; exact (bq_ b.out)⟩
      have jc : Aside0 (rb.heap[D]? = some (.cells #[.slice pc ga.length qc, .int .i64 ua, .int .i64 va, .string wa] 29 (0, 0))) := ⟨by rw [← hw_]; exact (bp_ p.out)⟩
      have kc : Aside0 (Below w.heap.size w rb) := ⟨by rw [← hw_]; exact (hs_ V.out)⟩
      clear hw_
      (try clear J)
      (try clear F)
      (try clear u)
      (try clear l)
      (try clear m)
      (try clear o)
      (try clear x)
      (try clear I)
      (try clear a)
      (try clear d)
      (try clear b)
      (try clear p)
      (try clear V)
      have J := Wc
      have F := Xc
      have u := fc
      have l := Yc
      have m := Zc
      have o := ad
      have x := bd
      have I := cd
      have a := dd
      have d := ed
      have b := ic
      have p := jc
      have V := kc
      clear Wc Xc fc Yc Zc ad bd cd dd ed ic jc kc
      replace J := Aside0.mk (Kd.S_drew J.out)
      replace F := Aside0.mk (Kd.S_drew F.out)
      replace u := Aside0.mk (Kd.S_drew u.out)
      replace l := Aside0.mk (Kd.R_drew l.out)
      replace m := Aside0.mk (Kd.R_drew m.out)
      replace o := Aside0.mk (Kd.R_drew o.out)
      replace x := Aside0.mk (Kd.R_drew x.out)
      replace I := Aside0.mk (Kd.R_drew I.out)
      replace a := Aside0.mk (blk_drew a.out)
      replace d := Aside0.mk (blk_drew d.out)
      replace b := Aside0.mk (blk_drew b.out)
      replace p := Aside0.mk (blk_drew p.out)
      replace V := Aside0.mk (bd_ V.out)
      obtain ⟨ab, bb⟩ : 0 ≤ (g : Int) ∧ g < (i.length : Int) := pq_
      obtain ⟨ac, xa, ya, zc, ia, Fa, Ga, Ha, Ia, Ja⟩ := at_T29 (Kd.S_reads' u.out).2.2 g ab bb
      obtain rfl : v = ac := (by injection zc)
      obtain ⟨vd, Fb, Gb, kb⟩ := Kd.S_get u.out z29 g ab (by first | exact bb | exact of_decide_eq_true (by with_reducible assumption) | (have e_ := (Kd.S_reads' u.out).1; omega))
      obtain ⟨Hc, rfl, oa⟩ := k29_openM Gb
      have ca := kb 0 _ rfl
      rw [Nat.add_zero] at ca
      replace ca := Option.some.inj (ca.symm.trans ia)
      rw [ca] at oa
      have pa := Aside0.mk (show Kd.R k99 99 _ _ _ _ ((rd_T29 i g).f0) from oa)
      clear ca oa kb Fb
      have W := Aside0.mk Ja
      have vb := Aside0.mk Ia
      clear Ja Ia
      replace ab := eq_true ab; replace bb := eq_true bb
      refine start_ (n := 30) (S := fun w' => w'.cell? ⟨D, 0, none⟩ = some (.slice pc ga.length qc) ∧ w'.cell? ⟨D, 1, none⟩ = some (.int .i64 ua) ∧ w'.cell? ⟨D, 2, none⟩ = some (.int .i64 va) ∧ w'.cell? ⟨D, 3, none⟩ = some (.string wa) ∧ w'.cell? (v.add ((g).toNat * 4)) = some (.slice xa ((rd_T29 i g).f0).length ya) ∧ w'.cell? ⟨(v.add ((g).toNat * 4)).block, (v.add ((g).toNat * 4)).off + 1, none⟩ = some (.int .i64 ((rd_T29 i g).f1)) ∧ w'.cell? ⟨(v.add ((g).toNat * 4)).block, (v.add ((g).toNat * 4)).off + 2, none⟩ = some (.int .i64 ((rd_T29 i g).f2)) ∧ w'.cell? ⟨(v.add ((g).toNat * 4)).block, (v.add ((g).toNat * 4)).off + 3, none⟩ = some (.string ((rd_T29 i g).f3))) (ds := []) (b_ 0 30) (by kernel_rfl) rfl rfl ⟨bx_ p.out 0, bx_ p.out 1, bx_ p.out 2, bx_ p.out 3, ia, Fa, Ga, Ha⟩ (fun j => ?_); refine with_tabW laws_FnStores.tab14 laws_FnStores.bits14 (fun T Cb => ?_)
      generalize rb.drew = zh at J F u l m o x I a d b p V pa W ia Fa Ga Ha j ⊢
      iterate 3 refine p_ T ?_
      refine qw_ 4 (m_ 30 23) T ?_
      refine qw_ 5 (m_ 30 55) T ?_
      refine qw_ 6 (m_ 30 119) T ?_
      refine qt_ 3 (b_ 7 23) T Cb j ?_
      refine t0_ T Cb j ?_
      refine o1_ 8 (b_ 9 21) T (fun K hK => ?_)
      refine gs_ Tryz.func19 #[.agg #[.slice pc ga.length qc, .int .i64 ua, .int .i64 va, .string wa], .agg #[.slice xa ((rd_T29 i g).f0).length ya, .int .i64 ((rd_T29 i g).f1), .int .i64 ((rd_T29 i g).f2), .string ((rd_T29 i g).f3)]] ?_
      with_reducible refine (impl_SameAlarm.calls k2 _ _ ga ua va wa _ _ ((rd_T29 i g).f0) ((rd_T29 i g).f1) ((rd_T29 i g).f2) ((rd_T29 i g).f3) true _ ?side1 ?side2 ?side3 ?side4 Id.out).mono ?_
      (case side1 => exact cp_ ((Kd.R_reads' I.out).2.2))
      (case side2 => exact (Kd.R_reads' I.out).2.1)
      (case side3 => repeat (first | exact (by repeat (first | (with_reducible exact W.out) | (with_reducible first | refine ca_ ?_ _ | refine cn_ ?_ _ | refine cd_ ?_) | exact W.out)) | (with_reducible first | refine ca_ ?_ _ | refine cn_ ?_ _ | refine cd_ ?_)))
      (case side4 => exact vb.out)
      rintro e Ah ⟨rfl, hb⟩
      have kd := (hb.cell (World.block_lt_of_cell? _ _ (j.2.2.2.2.1))).trans (j.2.2.2.2.1)
      have ld := (hb.cell (World.block_lt_of_cell? _ _ (j.2.2.2.2.2.1))).trans (j.2.2.2.2.2.1)
      have md := (hb.cell (World.block_lt_of_cell? _ _ (j.2.2.2.2.2.2.1))).trans (j.2.2.2.2.2.2.1)
      have od := (hb.cell (World.block_lt_of_cell? _ _ (j.2.2.2.2.2.2.2))).trans (j.2.2.2.2.2.2.2)
      refine ⟨_, rfl, ?_⟩
      replace J := sb_ J hb
      replace F := sb_ F hb
      replace u := sb_ u hb
      replace l := rb_ l hb
      replace m := rb_ m hb
      replace o := rb_ o hb
      replace x := rb_ x hb
      replace I := rb_ I hb
      replace pa := rb_ pa hb
      replace a := bk2_ a hb
      replace d := bk2_ d hb
      replace b := bk2_ b hb
      replace p := bk2_ p hb
      replace W := Aside0.mk (Kd.C_below (by repeat (first | (with_reducible exact W.out) | (with_reducible first | refine ca_ ?_ _ | refine cn_ ?_ _ | refine cd_ ?_) | exact W.out)) hb)
      replace V := st_ V hb
      (try clear hb)
      (try clear hk)
      refine ho_ hK ⟨bx_ p.out 0, bx_ p.out 1, bx_ p.out 2, bx_ p.out 3, kd, ld, md, od⟩ (fun j => ?_)
      iterate 6 refine p_ T ?_
      iterate 13 refine v_ T ?_
      iterate 2 refine p_ T ?_
      refine done_ (done_of T.out (by kernel_rfl)) ?_
      try go_wp2
      go_roundg k2
      case measure => have := HJ8.out; have := rd.out; omega
      case rel => exact ⟨(wrap64 (g + 1)), rs_, H', ⟨by have := HJ8.out; have := rd.out; omega⟩, ⟨Kd.S_mono (sp_ J.out) (fun _ hk => ⟨hk.1, ⟨hk.2.1, ⟨hk.2.2.1, ⟨hk.2.2.2.1, ⟨hk.2.2.2.2.1, ⟨hk.2.2.2.2.2.1, ⟨hk.2.2.2.2.2.2.1, hk.2.2.2.2.2.2.2.1⟩⟩⟩⟩⟩⟩⟩)⟩, ⟨Kd.S_mono (sp_ F.out) (fun _ hk => ⟨hk.1, ⟨hk.2.1, ⟨hk.2.2.1, ⟨hk.2.2.2.1, ⟨hk.2.2.2.2.1, ⟨hk.2.2.2.2.2.1, hk.2.2.2.2.2.2.1⟩⟩⟩⟩⟩⟩)⟩, ⟨Kd.S_mono (sp_ u.out) (fun _ hk => ⟨hk.1, ⟨hk.2.1, ⟨hk.2.2.1, hk.2.2.2.1⟩⟩⟩)⟩, ⟨Kd.R_mono (rp_ l.out) (fun _ hk => ⟨hk.1, ⟨hk.2.1, ⟨hk.2.2.1, ⟨hk.2.2.2.1, hk.2.2.2.2.1⟩⟩⟩⟩)⟩, ⟨Kd.R_mono (rp_ m.out) (fun _ hk => ⟨hk.1, ⟨hk.2.1, hk.2.2.1⟩⟩)⟩, ⟨Kd.R_mono (rp_ o.out) (fun _ hk => ⟨hk.1, hk.2.1⟩)⟩, ⟨bq_ a.out⟩, ⟨bq_ d.out⟩, ⟨bq_ b.out⟩, ⟨hs_ V.out⟩⟩
     have Gd : decide (g < (i.length : Int)) = false := decide_eq_false Tc
     clear Tc
     replace H := ib_ H; rcases H with ⟨rfl, H⟩ | ⟨rfl, H⟩
     ·
      replace H := bi_ H; obtain ⟨Ac, Fg, H⟩ := H
      replace H := in_ H; obtain ⟨Ud, H⟩ := H
      have Gg : ((i.length : Int) == Ac) = true := beq_iff_eq.mpr Ud
      have Hg : ((i.length : Int) != Ac) = false := bne_eq_false_iff_eq.mpr Ud
      clear Ud
      replace H := bi_ H; obtain ⟨Vd, Ig, H⟩ := H
      replace H := bi_ H; obtain ⟨Wd, Jg, H⟩ := H
      obtain rfl := Option.some.inj H
      obtain ⟨Vg, Wg, Ce⟩ := Kd.S_slice u.out
      subst Ce
      go_wp2_with (first | ((with_reducible refine gate_callee (f := 34) rfl ?_); refine gl_ (some 133) Tryz.func34 #[.slice cb L.length Aa] ?_; (with_reducible refine (impl_CountOf.calls k2 _ _ L Ac _ ?side1 ?side2 Fg.out).mono ?_); (case side1 => exact cp_ ((Kd.S_reads' F.out).2.2)); (case side2 => exact (Kd.S_reads' F.out).2.1); rintro e Bh ⟨rfl, hb⟩; refine ⟨_, rfl, ?_⟩; replace J := sb_ J hb; replace F := sb_ F hb; replace a := bk2_ a hb; replace d := bk2_ d hb; replace b := bk2_ b hb; replace V := st_ V hb; (try clear hb); (try clear hk)) | (go_at_call 34; (with_reducible refine (impl_CountOf.calls k2 _ _ L Vd _ ?side1 ?side2 Ig.out).mono ?_); (case side1 => exact cp_ ((Kd.S_reads' F.out).2.2)); (case side2 => exact (Kd.S_reads' F.out).2.1); rintro e Ch ⟨rfl, hb⟩; replace J := sb_ J hb; replace F := sb_ F hb; replace a := bk2_ a hb; replace d := bk2_ d hb; replace b := bk2_ b hb; replace V := st_ V hb; (try clear hb); (try clear hk)) | (go_at_call 34; (with_reducible refine (impl_CountOf.calls k2 _ _ X Wd _ ?side1 ?side2 Jg.out).mono ?_); (case side1 => exact cp_ ((Kd.S_reads' J.out).2.2)); (case side2 => exact (Kd.S_reads' J.out).2.1); rintro e Dh ⟨rfl, hb⟩; replace J := sb_ J hb; replace a := bk2_ a hb; replace d := bk2_ d hb; replace b := bk2_ b hb; replace V := st_ V hb; (try clear hb); (try clear hk)))
      go_ret
      exact an_ (hs_ V.out)
     replace H := bi_ H; obtain ⟨Bc, Kg, H⟩ := H
     replace H := in_ H; obtain ⟨Xd, H⟩ := H
     have Lg : ((i.length : Int) == Bc) = true := beq_iff_eq.mpr Xd
     have Mg : ((i.length : Int) != Bc) = false := bne_eq_false_iff_eq.mpr Xd
     clear Xd
     replace H := bi_ H; obtain ⟨Yd, Ng, H⟩ := H
     replace H := bi_ H; obtain ⟨Zd, Og, H⟩ := H
     obtain rfl := Option.some.inj H
     obtain ⟨Pg, Qg, ae⟩ := Kd.S_slice u.out
     subst ae
     go_wp2_with (first | ((with_reducible refine gate_callee (f := 34) rfl ?_); refine gl_ (some 133) Tryz.func34 #[.slice cb L.length Aa] ?_; (with_reducible refine (impl_CountOf.calls k2 _ _ L Bc _ ?side1 ?side2 Kg.out).mono ?_); (case side1 => exact cp_ ((Kd.S_reads' F.out).2.2)); (case side2 => exact (Kd.S_reads' F.out).2.1); rintro e Xg ⟨rfl, hb⟩; refine ⟨_, rfl, ?_⟩; replace J := sb_ J hb; replace F := sb_ F hb; replace a := bk2_ a hb; replace d := bk2_ d hb; replace b := bk2_ b hb; replace V := st_ V hb; (try clear hb); (try clear hk)) | (go_at_call 34; (with_reducible refine (impl_CountOf.calls k2 _ _ L Yd _ ?side1 ?side2 Ng.out).mono ?_); (case side1 => exact cp_ ((Kd.S_reads' F.out).2.2)); (case side2 => exact (Kd.S_reads' F.out).2.1); rintro e Yg ⟨rfl, hb⟩; replace J := sb_ J hb; replace F := sb_ F hb; replace a := bk2_ a hb; replace d := bk2_ d hb; replace b := bk2_ b hb; replace V := st_ V hb; (try clear hb); (try clear hk)) | (go_at_call 34; (with_reducible refine (impl_CountOf.calls k2 _ _ X Zd _ ?side1 ?side2 Og.out).mono ?_); (case side1 => exact cp_ ((Kd.S_reads' J.out).2.2)); (case side2 => exact (Kd.S_reads' J.out).2.1); rintro e Zg ⟨rfl, hb⟩; replace J := sb_ J hb; replace a := bk2_ a hb; replace d := bk2_ d hb; replace b := bk2_ b hb; replace V := st_ V hb; (try clear hb); (try clear hk)))
     go_ret
     exact an_ (hs_ V.out)
/-- THE ONE PURE STATEMENT of laws_FnStores: yours. -/
noncomputable def laws_FnStores.Pure : Prop := ∀ (l0 : List Int), l0.length ≤ maxLen → l0.length * 1 ≤ 140737488351232 → (∀ x ∈ l0, (Lit.int .u8 x).wf = true) → ∃ k, laws_FnStores.f k l0 = some true
theorem laws_FnStores.walk (P : laws_FnStores.Pure) (a : Option Addr) (len0 cap0 : Nat) (z0 : List Int) (w : World) (j : (a = none ∧ len0 = 0 ∧ cap0 = 0 ∧ z0 = []) ∨ ∃ x, a = some x ∧ len0 ≤ cap0 ∧ cap0 ≤ maxLen ∧ z0.length = cap0 ∧ (∀ i, i < z0.length → w.cell? (x.add i) = some (.int .u8 (z0.getD i 0))) ∧ ∀ n ∈ z0, (Lit.int .u8 n).wf = true) (l : len0 * 1 ≤ 140737488351232) :
  Calls Tryz.prog 4 #[.slice a len0 cap0] w fun e w' => e = .returned (.bool true) ∧ Below w.heap.size w w' := by
 obtain ⟨g, rfl, b, hm0, c, f⟩ := ReadsInt.ofRowC j
 obtain ⟨k, h⟩ := P g hm0 l c
 refine (laws_FnStores.calls k _ _ g true w (Kd.C_of_reads (d := (0 : Int)) (h1 := fun _ => rfl) b) f h).mono ?_
 rintro e w' ⟨rfl, hd⟩
 exact ⟨rfl, hd⟩
end Go.Proofs.YtanfohlpkppeiaaGreat.Print
end
section
namespace Go.Proofs.YtanfohlpkppeiaaGreat.Print
open Go.RowKit Go.Proofs.YtanfohlpkppeiaaGreatV.PrintWords Go.Proofs.YtanfohlpkppeiaaGreatV.PrintLast Go.Proofs.YtanfohlpkppeiaaGreatV.PrintMore
set_option linter.unusedVariables false
set_option linter.unusedSimpArgs false
theorem wrap_id {x : Int} (h1 : -9223372036854775808 ≤ x) (h2 : x ≤ 9223372036854775807) : wrap64 x = x := by unfold wrap64; omega
theorem wrap_up (n : Nat) (h : n < 9223372036854775807) : wrap64 ((n : Int) + 1) = ((n + 1 : Nat) : Int) := by unfold wrap64; omega
theorem Ev.uniq {α : Type} {g : Nat → Option α} {a b : α} (h : Ev g a) (h' : Ev g b) : a = b := by
  obtain ⟨K, h⟩ := h
  obtain ⟨K', h'⟩ := h'
  exact Option.some.inj ((h (max K K') (Nat.le_max_left _ _)).symm.trans (h' _ (Nat.le_max_right _ _)))
theorem lt_mid {α : Type} (pre suf : List α) (y : α) : (pre.length : Int) < ((pre ++ y :: suf).length : Int) := by simp only [List.length_append, List.length_cons]; omega
theorem not_lt_end {α : Type} (pre : List α) : ¬ ((pre.length : Int) < ((pre ++ []).length : Int)) := by simp
theorem nn (n : Nat) : (0 : Int) ≤ (n : Int) := by omega
theorem mid_assoc {α : Type} (pre suf : List α) (y : α) : pre ++ y :: suf = (pre ++ [y]) ++ suf := by simp
/-- A loop that goes on or stops with an answer. -/
def scan {ρ : Type} (step : Nat → Option ρ) (fin : ρ) : Nat → Nat → ρ
  | 0, _ => fin
  | d + 1, i => match step i with
    | some r => r
    | none => scan step fin d (i + 1)
/-- What one round does. -/
def goOn {ρ : Type} (o : Option ρ) (next : Option ρ) : Option ρ := match o with
  | some r => some r
  | none => next
theorem scan_ev2 {ρ : Type} {F : Nat → Int → Option ρ} {n : Nat} {step : Nat → Option ρ} {fin : ρ} (hend : ∃ K, ∀ k, K ≤ k → F (k + 1) (n : Int) = some fin)
    (hstep : ∀ i, i < n → ∃ K, ∀ k, K ≤ k → F (k + 1) (i : Int) = goOn (step i) (F k ((i + 1 : Nat) : Int))) : ∀ d i, d + i = n → Ev (fun k => F k (i : Int)) (scan step fin d i)
  | 0, i, h => by
    obtain rfl : i = n := by omega
    obtain ⟨K, hK⟩ := hend
    refine ⟨K + 1, fun k hk => ?_⟩
    obtain ⟨m, rfl⟩ : ∃ m, k = m + 1 := ⟨k - 1, by omega⟩
    exact hK m (by omega)
  | d + 1, i, h => by
    obtain ⟨K, hK⟩ := hstep i (by omega)
    unfold scan
    cases hs : step i with
    | some r =>
      refine ⟨K + 1, fun k hk => ?_⟩
      obtain ⟨m, rfl⟩ : ∃ m, k = m + 1 := ⟨k - 1, by omega⟩
      have := hK m (by omega)
      rw [hs] at this
      exact this
    | none =>
      obtain ⟨K', hK'⟩ := scan_ev2 hend hstep d (i + 1) (by omega)
      refine ⟨max K K' + 1, fun k hk => ?_⟩
      obtain ⟨m, rfl⟩ : ∃ m, k = m + 1 := ⟨k - 1, by omega⟩
      have := hK m (by omega)
      rw [hs] at this
      exact this.trans (hK' m (by omega))
theorem scan_ev {ρ : Type} {F : Nat → Int → Option ρ} {n : Nat} {step : Nat → Option ρ} {fin : ρ} (hend : ∀ k, F (k + 1) (n : Int) = some fin)
    (hstep : ∀ i, i < n → ∃ K, ∀ k, K ≤ k → F (k + 1) (i : Int) = goOn (step i) (F k ((i + 1 : Nat) : Int))) : ∀ d i, d + i = n → Ev (fun k => F k (i : Int)) (scan step fin d i) := scan_ev2 ⟨0, fun k _ => hend k⟩ hstep
theorem scan_congr {ρ : Type} {s s' : Nat → Option ρ} {f : ρ} : ∀ d i, (∀ j, i ≤ j → j < i + d → s j = s' j) → scan s f d i = scan s' f d i
  | 0, _, _ => rfl
  | d + 1, i, h => by
    unfold scan
    rw [h i (Nat.le_refl _) (by omega)]
    cases s' i with
    | some r => rfl
    | none => exact scan_congr d (i + 1) (fun j h1 h2 => h j (by omega) (by omega))
/-- Two lists of one length, element by element. -/
theorem scan_same {α β : Type} [DecidableEq β] (f : α → β) (z : α) : ∀ (a b pa pb : List α), a.length = b.length → pa.length = pb.length →
    scan (fun i => if f ((pa ++ a).getD i z) = f ((pb ++ b).getD i z) then none else some false) true a.length pa.length = decide (a.map f = b.map f)
  | [], [], pa, pb, _, _ => by simp [scan]
  | [], _ :: _, _, _, h, _ => by simp at h
  | _ :: _, [], _, _, h, _ => by simp at h
  | x :: a, y :: b, pa, pb, h, h2 => by
    have ih := scan_same f z a b (pa ++ [x]) (pb ++ [y]) (by simpa using h) (by simp [h2])
    simp only [List.append_assoc, List.singleton_append, List.length_append, List.length_singleton] at ih
    simp only [List.length_cons, scan]
    rw [show (pa ++ x :: a).getD pa.length z = x by simp, show (pb ++ y :: b).getD pa.length z = y by rw [h2]; simp]
    by_cases he : f x = f y
    · simp only [if_pos he]; rw [ih]; simp [he]
    · simp [he]
theorem scan_same0 {α β : Type} [DecidableEq β] (f : α → β) (z : α) (a b : List α) (h : a.length = b.length) : scan (fun i => if f (a.getD i z) = f (b.getD i z) then none else some false) true a.length 0 = decide (a.map f = b.map f) := scan_same f z a b [] [] h rfl
/-- The place of the first that is so, or -1. -/
def place {α : Type} (p : α → Bool) : List α → Nat → Int
  | [], _ => -1
  | x :: l, i => if p x = true then (i : Int) else place p l (i + 1)
theorem scan_place {α : Type} (p : α → Bool) (z : α) : ∀ (suf pre : List α), scan (fun i => if p ((pre ++ suf).getD i z) = true then some (i : Int) else none) (-1) suf.length pre.length = place p suf pre.length
  | [], pre => by simp [scan, place]
  | y :: suf, pre => by
    have ih := scan_place p z suf (pre ++ [y])
    simp only [List.append_assoc, List.singleton_append, List.length_append, List.length_singleton] at ih
    simp only [List.length_cons, scan, place]
    rw [show (pre ++ y :: suf).getD pre.length z = y by simp]
    by_cases hp : p y = true
    · simp [hp]
    · simp only [if_neg hp]; exact ih
theorem scan_place0 {α : Type} (p : α → Bool) (z : α) (l : List α) : scan (fun i => if p (l.getD i z) = true then some (i : Int) else none) (-1) l.length 0 = place p l 0 := scan_place p z l []
theorem getD_eq {α : Type} (l : List α) (i : Nat) (z : α) (h : i < l.length) : l.getD i z = l[i] := by simp [List.getD_eq_getElem?_getD, List.getElem?_eq_getElem h]
theorem getD_mem {α : Type} (l : List α) (i : Nat) (z : α) (h : i < l.length) : l.getD i z ∈ l := by rw [getD_eq l i z h]; exact List.getElem_mem h
def WiLabel (x : S99) : Prop := x.f0.size ≤ 4000000 ∧ x.f1.size ≤ 4000000
def WiAlarm (x : S29) : Prop := (x.f0.length ≤ 4000000 ∧ ∀ y ∈ x.f0, WiLabel y) ∧ True ∧ True ∧ x.f3.size ≤ 4000000
theorem rdnLabel (l : List S99) (i : Nat) : rd_T99 l (i : Int) = l.getD i z99 := by unfold rd_T99; simp
theorem inEq (a b c : Int) : impl_in.f a b c = some (decide (b ≤ a) && decide (a ≤ c)) := by
  unfold impl_in.f
  by_cases h : a ≥ b
  · rw [if_pos h]; simp [show b ≤ a from h]
  · rw [if_neg h]; simp [show ¬ b ≤ a from h]
theorem l1InEq (a b c : Int) : spec_l1In.f a b c = some (decide (b ≤ a) && decide (a ≤ c)) := by
  unfold spec_l1In.f
  by_cases h : a ≥ b
  · rw [if_pos h]; simp [show b ≤ a from h]
  · rw [if_neg h]; simp [show ¬ b ≤ a from h]
/-- Each byte of a name. -/
def nameStep {ρ : Type} (no : ρ) (s : ByteArray) (i : Nat) : Option ρ := if (bt s (i : Int)) < 97 then some no else if (bt s (i : Int)) > 122 then some no else none
def nameOk (s : ByteArray) : Bool := (decide (1 ≤ (s.size : Int)) && decide ((s.size : Int) ≤ 8)) && scan (nameStep false s) true s.size 0
/-- Where nothing stops a loop but with 'false', its end may wait. -/
theorem scan_end {step : Nat → Option Bool} (h : ∀ i r, step i = some r → r = false) (e : Bool) : ∀ d i, scan step e d i = (e && scan step true d i)
  | 0, i => by simp [scan]
  | d + 1, i => by
    unfold scan
    cases hs : step i with
    | some r => rw [h i r hs]; simp
    | none => exact scan_end h e d (i + 1)
theorem nameStep_false (s : ByteArray) (i : Nat) (r : Bool) (h : nameStep false s i = some r) : r = false := by
  unfold nameStep at h
  split at h
  · injection h with h; exact h.symm
  · split at h
    · injection h with h; exact h.symm
    · cases h
theorem implNameOk_ev (s : ByteArray) (h : s.size < 4611686018427387904) : Ev (fun k => impl_NameOk.f k s) (nameOk s) := by
  unfold impl_NameOk.f nameOk
  simp only [inEq, Option.bind_some]
  cases hc : (decide (1 ≤ (s.size : Int)) && decide ((s.size : Int) ≤ 8)) with
  | false => simp only [Bool.false_eq_true, if_false, Bool.false_and]; exact Ev.now _
  | true =>
    simp only [if_true, Bool.true_and]
    refine scan_ev (F := fun k i => impl_NameOk.l0 k s i) (n := s.size) (fun k => ?_) (fun i hi => ⟨0, fun k _ => ?_⟩) s.size 0 (by omega)
    · simp only [impl_NameOk.l0]; rw [if_neg (by omega)]
    · simp only [impl_NameOk.l0, nameStep]
      rw [if_pos (by omega), if_pos (by omega), wrap_up i (by omega)]
      split
      · rfl
      · split <;> rfl
theorem specNameOk_ev (s : ByteArray) (h : s.size < 4611686018427387904) : Ev (fun k => spec_NameOk.f k s) (nameOk s) := by
  unfold spec_NameOk.f nameOk
  rw [← scan_end (nameStep_false s)]
  refine scan_ev (F := fun k i => spec_NameOk.l0 k s i) (n := s.size) (fun k => ?_) (fun i hi => ⟨0, fun k _ => ?_⟩) s.size 0 (by omega)
  · simp only [spec_NameOk.l0]; rw [if_neg (by omega), l1InEq]; rfl
  · simp only [spec_NameOk.l0, nameStep]
    rw [if_pos (by omega), if_pos (by omega), wrap_up i (by omega)]
    split
    · rfl
    · split <;> rfl
/-- Each byte of a plain text. -/
def plainStep {ρ : Type} (no : ρ) (s : ByteArray) (i : Nat) : Option ρ := if (bt s (i : Int)) < 32 then some no else if (bt s (i : Int)) > 126 then some no else if (bt s (i : Int)) = 34 then some no else if (bt s (i : Int)) = 92 then some no else none
def plainOk (s : ByteArray) : Bool := decide ((s.size : Int) ≤ 12) && scan (plainStep false s) true s.size 0
theorem plainStep_false (s : ByteArray) (i : Nat) (r : Bool) (h : plainStep false s i = some r) : r = false := by
  unfold plainStep at h
  repeat (split at h; (injection h with h; exact h.symm))
  cases h
theorem implPlainOk_ev (s : ByteArray) (h : s.size < 4611686018427387904) : Ev (fun k => impl_PlainOk.f k s) (plainOk s) := by
  unfold impl_PlainOk.f plainOk
  by_cases hc : (s.size : Int) > 12
  · simp only [if_pos hc, decide_eq_false (show ¬ (s.size : Int) ≤ 12 by omega), Bool.false_and]; exact Ev.now _
  · simp only [if_neg hc, decide_eq_true (show (s.size : Int) ≤ 12 by omega), Bool.true_and]
    refine scan_ev (F := fun k i => impl_PlainOk.l0 k s i) (n := s.size) (fun k => ?_) (fun i hi => ⟨0, fun k _ => ?_⟩) s.size 0 (by omega)
    · simp only [impl_PlainOk.l0]; rw [if_neg (by omega)]
    · simp only [impl_PlainOk.l0, plainStep]
      rw [if_pos (by omega), if_pos (by omega), wrap_up i (by omega)]
      repeat (split; rfl)
      rfl
theorem specPlainOk_ev (s : ByteArray) (h : s.size < 4611686018427387904) : Ev (fun k => spec_PlainOk.f k s) (plainOk s) := by
  unfold spec_PlainOk.f plainOk
  rw [← scan_end (plainStep_false s)]
  refine scan_ev (F := fun k i => spec_PlainOk.l0 k s i) (n := s.size) (fun k => ?_) (fun i hi => ⟨0, fun k _ => ?_⟩) s.size 0 (by omega)
  · simp only [spec_PlainOk.l0]; rw [if_neg (by omega)]
  · simp only [spec_PlainOk.l0, plainStep]
    rw [if_pos (by omega), if_pos (by omega), wrap_up i (by omega)]
    repeat (split; rfl)
    rfl
def labelOk (x : S99) : Bool := nameOk x.f0 && plainOk x.f1
theorem implLabelOk_ev (x : S99) (h : WiLabel x) : Ev (fun k => impl_LabelOk.f k x.f0 x.f1) (labelOk x) := by
  have h1 := h.1
  have h2 := h.2
  obtain ⟨K1, g1⟩ := implNameOk_ev x.f0 (by omega)
  obtain ⟨K2, g2⟩ := implPlainOk_ev x.f1 (by omega)
  refine ⟨K1 + K2, fun k hk => ?_⟩
  have e1 := g1 k (by omega)
  have e2 := g2 k (by omega)
  simp only at e1 e2
  simp only [impl_LabelOk.f, e1, e2, Option.bind_some, labelOk]
  cases nameOk x.f0 <;> simp
theorem specLabelOk_ev (x : S99) (h : WiLabel x) : Ev (fun k => spec_LabelOk.f k x.f0 x.f1) (labelOk x) := by
  have h1 := h.1
  have h2 := h.2
  obtain ⟨K1, g1⟩ := specNameOk_ev x.f0 (by omega)
  obtain ⟨K2, g2⟩ := specPlainOk_ev x.f1 (by omega)
  refine ⟨K1 + K2, fun k hk => ?_⟩
  have e1 := g1 k (by omega)
  have e2 := g2 k (by omega)
  simp only at e1 e2
  simp only [spec_LabelOk.f, e1, e2, Option.bind_some, labelOk]
  cases nameOk x.f0 <;> simp
/-- Is label i right, behind the one before it? -/
def setBit (l : List S99) (i : Nat) : Bool := labelOk (l.getD i z99) && (decide (i = 0) || Op.bytesLess (l.getD (i - 1) z99).f0.toList (l.getD i z99).f0.toList)
def setStep (l : List S99) (i : Nat) : Option Bool := if setBit l i = true then none else some false
def setOk (l : List S99) : Bool := decide ((l.length : Int) ≤ 4) && scan (setStep l) true l.length 0
theorem setStep_false (l : List S99) (i : Nat) (r : Bool) (h : setStep l i = some r) : r = false := by
  unfold setStep at h
  split at h
  · cases h
  · injection h with h; exact h.symm
theorem scan_stop {step : Nat → Option Bool} (hf : ∀ i r, step i = some r → r = false) : ∀ d i j, i ≤ j → j < i + d → step j = some false → scan step true d i = false
  | 0, i, j, h1, h2, _ => by omega
  | d + 1, i, j, h1, h2, h3 => by
    unfold scan
    cases hs : step i with
    | some r => exact hf i r hs
    | none =>
      by_cases e : i = j
      · subst e; rw [hs] at h3; cases h3
      · exact scan_stop hf d (i + 1) j (by omega) (by omega) h3
theorem sub1 (i : Nat) (h : 0 < i) (hi : i < 4611686018427387904) : wrap64 ((i : Int) - 1) = ((i - 1 : Nat) : Int) := by rw [wrap_id (by omega) (by omega)]; omega
theorem implSetOk_ev (l : List S99) (h : l.length ≤ 4000000 ∧ ∀ y ∈ l, WiLabel y) : Ev (fun k => impl_SetOk.f k l) (setOk l) := by
  have h1 := h.1
  have hx : setOk l = scan (fun i => if 4 ≤ i then some false else setStep l i) true l.length 0 := by
    unfold setOk
    by_cases h4 : l.length ≤ 4
    · rw [decide_eq_true (show (l.length : Int) ≤ 4 by omega), Bool.true_and]
      exact scan_congr _ _ (fun j _ hj => by rw [if_neg (by omega)])
    · rw [decide_eq_false (show ¬ (l.length : Int) ≤ 4 by omega), Bool.false_and]
      exact (scan_stop (step := fun i => if 4 ≤ i then some false else setStep l i) (fun i r hr => by
        by_cases hi : 4 ≤ i
        · simp only [if_pos hi] at hr; injection hr with hr; exact hr.symm
        · simp only [if_neg hi] at hr; exact setStep_false l i r hr) l.length 0 4 (by omega) (by omega) (by simp)).symm
  rw [hx]
  unfold impl_SetOk.f
  refine scan_ev (F := fun k i => impl_SetOk.l0 k l l (l.length : Int) i) (n := l.length) (fun k => ?_) (fun i hi => ?_) l.length 0 (by omega)
  · simp only [impl_SetOk.l0]; rw [if_neg (by omega)]
  · obtain ⟨K, g⟩ := implLabelOk_ev (l.getD i z99) (h.2 _ (getD_mem l i _ hi))
    refine ⟨K, fun k hk => ?_⟩
    have e := g k hk
    simp only at e
    simp only [impl_SetOk.l0]
    rw [if_pos (by omega), if_pos (by omega), if_pos (by omega)]
    by_cases h4 : 4 ≤ i
    · rw [if_pos (by omega), if_pos h4]; rfl
    · rw [if_neg (by omega), if_neg h4, rdnLabel, e, Option.bind_some, wrap_up i (by omega)]
      unfold setStep setBit
      cases hl : labelOk (l.getD i z99) with
      | false => simp [goOn]
      | true =>
        by_cases h0 : i = 0
        · subst h0; simp [goOn]
        · rw [if_pos rfl, if_pos (by omega), sub1 i (by omega) (by omega), if_pos (by omega), if_pos (by omega), rdnLabel, decide_eq_false h0]
          cases Op.bytesLess (l.getD (i - 1) z99).f0.toList (l.getD i z99).f0.toList <;> simp [goOn]
theorem specSetOk_ev (l : List S99) (h : l.length ≤ 4000000 ∧ ∀ y ∈ l, WiLabel y) : Ev (fun k => spec_SetOk.f k l) (setOk l) := by
  have h1 := h.1
  unfold spec_SetOk.f setOk
  rw [← scan_end (setStep_false l)]
  refine scan_ev (F := fun k i => spec_SetOk.l0 k l i) (n := l.length) (fun k => ?_) (fun i hi => ?_) l.length 0 (by omega)
  · simp only [spec_SetOk.l0]; rw [if_neg (by omega)]
  · obtain ⟨K, g⟩ := specLabelOk_ev (l.getD i z99) (h.2 _ (getD_mem l i _ hi))
    refine ⟨K, fun k hk => ?_⟩
    have e := g k hk
    simp only at e
    simp only [spec_SetOk.l0, spec_Less.f]
    rw [if_pos (by omega), if_pos (by omega), rdnLabel, e, Option.bind_some, wrap_up i (by omega)]
    unfold setStep setBit
    cases hl : labelOk (l.getD i z99) with
    | false => simp [goOn]
    | true =>
      by_cases h0 : i = 0
      · subst h0; simp [goOn]
      · rw [if_pos rfl, if_pos (by omega), sub1 i (by omega) (by omega), if_pos (by omega), if_pos (by omega), rdnLabel, decide_eq_false h0]
        cases Op.bytesLess (l.getD (i - 1) z99).f0.toList (l.getD i z99).f0.toList <;> simp [goOn]
def alarmOk (x : S29) : Bool := setOk x.f0 && (decide ((x.f0.length : Int) > 0) && ((decide (0 ≤ x.f1) && decide (x.f1 ≤ 99999)) && ((decide (x.f1 ≤ x.f2) && decide (x.f2 ≤ 99999)) && plainOk x.f3)))
theorem implAlarmOk_ev (x : S29) (h : WiAlarm x) : Ev (fun k => impl_AlarmOk.f k x.f0 x.f1 x.f2 x.f3) (alarmOk x) := by
  have h3 := h.2.2.2
  obtain ⟨K1, g1⟩ := implSetOk_ev x.f0 h.1
  obtain ⟨K2, g2⟩ := implPlainOk_ev x.f3 (by omega)
  refine ⟨K1 + K2, fun k hk => ?_⟩
  have e1 := g1 k (by omega)
  have e2 := g2 k (by omega)
  simp only at e1 e2
  simp only [impl_AlarmOk.f, e1, e2, Option.bind_some, alarmOk, inEq]
  by_cases hl : (x.f0.length : Int) > 0
  · rw [if_pos hl, decide_eq_true hl]
    cases setOk x.f0 <;> cases (decide (0 ≤ x.f1) && decide (x.f1 ≤ 99999)) <;> cases (decide (x.f1 ≤ x.f2) && decide (x.f2 ≤ 99999)) <;> simp
  · rw [if_neg hl, decide_eq_false hl]
    cases setOk x.f0 <;> simp
theorem place_ge {α : Type} (p : α → Bool) : ∀ (l : List α) (i : Nat), (0 ≤ place p l i) ↔ l.any p = true
  | [], i => by simp [place]
  | x :: l, i => by
    unfold place
    by_cases h : p x = true
    · rw [if_pos h]; simp [h]
    · rw [if_neg h, place_ge p l (i + 1)]; simp [h]
theorem place_lo {α : Type} (p : α → Bool) : ∀ (l : List α) (i : Nat), -1 ≤ place p l i
  | [], i => by simp [place]
  | x :: l, i => by
    unfold place
    split
    · omega
    · exact place_lo p l (i + 1)
def WiChain (x : S80) : Prop := True ∧ (x.f1.length ≤ 4000000 ∧ ∀ y ∈ x.f1, WiAlarm y)
def WiPart (x : S26) : Prop := True ∧ True ∧ (x.f2.length ≤ 4000000 ∧ ∀ y ∈ x.f2, WiChain y)
theorem rdnAlarm (l : List S29) (i : Nat) : rd_T29 l (i : Int) = l.getD i z29 := by unfold rd_T29; simp
/-- A label as two lists of bytes; an alarm as what it holds. -/
def lab (x : S99) : List UInt8 × List UInt8 := (x.f0.toList, x.f1.toList)
def sameSet (a b : List S99) : Bool := decide (a.map lab = b.map lab)
theorem map_ne_of_length {α β : Type} {f : α → β} {a b : List α} (h : ¬ a.length = b.length) : ¬ (a.map f = b.map f) := fun e => h (by simpa using congrArg List.length e)
theorem labNe (x y : S99) : ((!(x.f0.toList == y.f0.toList) || (!(x.f1.toList == y.f1.toList))) = true) ↔ ¬ lab x = lab y := by
  unfold lab
  simp only [Prod.mk.injEq, Bool.or_eq_true, Bool.not_eq_true', beq_eq_false_iff_ne]
  constructor
  · rintro (h | h) ⟨h1, h2⟩
    · exact h h1
    · exact h h2
  · intro h
    by_cases h1 : x.f0.toList = y.f0.toList
    · exact .inr fun h2 => h ⟨h1, h2⟩
    · exact .inl h1
theorem implSameSet_ev (a b : List S99) (h : a.length < 4611686018427387904) : Ev (fun k => impl_SameSet.f k a b) (sameSet a b) := by
  unfold impl_SameSet.f sameSet
  by_cases hl : a.length = b.length
  · simp only [if_pos (show (a.length : Int) = (b.length : Int) by omega)]
    rw [← scan_same0 lab z99 a b hl]
    refine scan_ev (F := fun k i => impl_SameSet.l0 k a b (a.length : Int) i) (n := a.length) (fun k => ?_) (fun i hi => ⟨0, fun k _ => ?_⟩) a.length 0 (by omega)
    · simp only [impl_SameSet.l0]; rw [if_neg (by omega)]
    · simp only [impl_SameSet.l0]
      rw [if_pos (by omega), if_pos (by omega), if_pos (by omega), if_pos (by omega), rdnLabel, rdnLabel, wrap_up i (by omega)]
      by_cases hc : lab (a.getD i z99) = lab (b.getD i z99)
      · rw [if_neg (fun e => (labNe _ _).1 e hc), if_pos hc]; rfl
      · rw [if_pos ((labNe _ _).2 hc), if_neg hc]; rfl
  · simp only [if_neg (show ¬ (a.length : Int) = (b.length : Int) by omega), decide_eq_false (map_ne_of_length hl)]
    exact Ev.now _
theorem specSameSet_ev (a b : List S99) (h : a.length < 4611686018427387904) : Ev (fun k => spec_SameSet.f k a b) (sameSet a b) := by
  unfold spec_SameSet.f sameSet
  by_cases hl : a.length = b.length
  · simp only [if_pos (show (a.length : Int) = (b.length : Int) by omega)]
    rw [← scan_same0 lab z99 a b hl]
    refine scan_ev (F := fun k i => spec_SameSet.l0 k a b i) (n := a.length) (fun k => ?_) (fun i hi => ⟨0, fun k _ => ?_⟩) a.length 0 (by omega)
    · simp only [spec_SameSet.l0]; rw [if_neg (by omega)]
    · simp only [spec_SameSet.l0]
      rw [if_pos (by omega), if_pos (by omega), if_pos (by omega), rdnLabel, rdnLabel, wrap_up i (by omega)]
      by_cases hc : lab (a.getD i z99) = lab (b.getD i z99)
      · rw [if_neg (fun e => (labNe _ _).1 e hc), if_pos hc]; rfl
      · rw [if_pos ((labNe _ _).2 hc), if_neg hc]; rfl
  · simp only [if_neg (show ¬ (a.length : Int) = (b.length : Int) by omega), decide_eq_false (map_ne_of_length hl)]
    exact Ev.now _
def labelsAt (l : List S29) (s : List S99) : Int := place (fun a => sameSet a.f0 s) l 0
theorem implLabelsAt_ev (l : List S29) (s : List S99) (h : l.length ≤ 4000000 ∧ ∀ y ∈ l, WiAlarm y) : Ev (fun k => impl_labelsAt.f k l s) (labelsAt l s) := by
  have h1 := h.1
  unfold impl_labelsAt.f labelsAt
  rw [← scan_place0 (fun a : S29 => sameSet a.f0 s) z29 l]
  refine scan_ev (F := fun k i => impl_labelsAt.l0 k s l (l.length : Int) i) (n := l.length) (fun k => ?_) (fun i hi => ?_) l.length 0 (by omega)
  · simp only [impl_labelsAt.l0]; rw [if_neg (by omega)]
  · have hw := (h.2 _ (getD_mem l i z29 hi)).1.1
    obtain ⟨K, g⟩ := implSameSet_ev (l.getD i z29).f0 s (by omega)
    refine ⟨K, fun k hk => ?_⟩
    have e := g k hk
    simp only at e
    simp only [impl_labelsAt.l0]
    rw [if_pos (by omega), if_pos (by omega), if_pos (by omega), rdnAlarm, e, Option.bind_some, wrap_up i (by omega)]
    cases sameSet (l.getD i z29).f0 s <;> simp [goOn]
end Go.Proofs.YtanfohlpkppeiaaGreat.Print
end
