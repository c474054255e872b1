import Derived.Shelf.Strings.Builder1
import Derived.Shelf.Strings.Builder2
import Derived.Shelf.Strings.OnBuilder
import Derived.Ground.GgsProg
import Derived.Shelf.GgSortFunc.Insertion
import Derived.Shelf.GgSortFunc.Tiny
import Derived.Shelf.GgSortFunc.Compose
import Derived.Ground.GgtProg
import Derived.Shelf.GgSortMore.Stable
import Derived.Test.YtanfohlpkppeiaaGreatProg
import Derived.Test.YtanfohlpkppeiaaGreatMFnParts1
import Derived.Test.YtanfohlpkppeiaaGreatMFnParts2
section
namespace Go.Proofs
open Go.Shelf
def Tryz.lays156_ren : Go.Shelf.Ren := ⟨fun | 156 => 117 | 165 => 133 | 166 => 134 | 169 => 135 | 240 => 151 | 241 => 152 | 276 => 156 | 277 => 157 | n => n, fun | 31 => 117 | 9 => 9 | 3 => 3 | 4 => 4 | 0 => 0 | 20 => 20 | 72 => 137 | 76 => 141 | 70 => 135 | 37 => 22 | 75 => 140 | 127 => 149 | 164 => 122 | 5 => 5 | 80 => 143 | n => n, fun | n => n⟩
theorem Tryz.lays156 : Go.Proofs.Lays.n156 Tryz.prog Tryz.lays156_ren := {
  mixed := by kernel_rfl
  f156 := Tryz.func117.trans (congrArg some (by kernel_rfl))
  f165 := Tryz.func133.trans (congrArg some (by kernel_rfl))
  f166 := Tryz.func134.trans (congrArg some (by kernel_rfl))
  f169 := Tryz.func135.trans (congrArg some (by kernel_rfl))
  f240 := Tryz.func151.trans (congrArg some (by kernel_rfl))
  f241 := Tryz.func152.trans (congrArg some (by kernel_rfl))
  f276 := Tryz.func156.trans (congrArg some (by kernel_rfl))
  f277 := Tryz.func157.trans (congrArg some (by kernel_rfl))
  t0 := Tryz.underlying0
  a0 := Tryz.isAgg0
  z0 := Tryz.sizeOf0
  v0 := Tryz.zeroValue0
  t3 := Tryz.underlying3
  a3 := Tryz.isAgg3
  z3 := Tryz.sizeOf3
  v3 := Tryz.zeroValue3
  t4 := Tryz.underlying4
  a4 := Tryz.isAgg4
  z4 := Tryz.sizeOf4
  v4 := Tryz.zeroValue4
  t9 := Tryz.underlying9
  a9 := Tryz.isAgg9
  z9 := Tryz.sizeOf9
  v9 := Tryz.zeroValue9
  t20 := Tryz.underlying20
  a20 := Tryz.isAgg20
  z20 := Tryz.sizeOf20
  v20 := Tryz.zeroValue20
  t31 := Tryz.underlying117
  a31 := Tryz.isAgg117
  z31 := Tryz.sizeOf117
  v31 := Tryz.zeroValue117
  t37 := Tryz.underlying22
  a37 := Tryz.isAgg22
  z37 := Tryz.sizeOf22
  v37 := Tryz.zeroValue22
  t70 := Tryz.underlying135
  a70 := Tryz.isAgg135
  z70 := Tryz.sizeOf135
  v70 := Tryz.zeroValue135
  t72 := Tryz.underlying137
  a72 := Tryz.isAgg137
  z72 := Tryz.sizeOf137
  v72 := Tryz.zeroValue137
  t75 := Tryz.underlying140
  a75 := Tryz.isAgg140
  z75 := Tryz.sizeOf140
  v75 := Tryz.zeroValue140
  t76 := Tryz.underlying141
  a76 := Tryz.isAgg141
  z76 := Tryz.sizeOf141
  v76 := Tryz.zeroValue141
  t127 := Tryz.underlying149
  a127 := Tryz.isAgg149
  z127 := Tryz.sizeOf149
  v127 := Tryz.zeroValue149
  t164 := Tryz.underlying122
  a164 := Tryz.isAgg122
  z164 := Tryz.sizeOf122
  v164 := Tryz.zeroValue122 }
theorem Tryz.Builder_Extra_156 : Builder.Extra Tryz.prog Tryz.lays156_ren := {
  sizeBuilder := by kernel_rfl
  liesBuilder := by kernel_rfl
  t5 := Tryz.underlying5
  a5 := Tryz.isAgg5
  z5 := Tryz.sizeOf5
  v5 := Tryz.zeroValue5
  infoByte := by kernel_rfl
  cellsByte := by kernel_rfl
  sizeByte := by kernel_rfl
  neB5 := by decide }
open Go.RowKit in
theorem Tryz.strings_Join_none (a : Option Addr) (c : Nat) (sep : ByteArray) (w : World) :
    Calls Tryz.prog 117 #[.slice a 0 c, .string sep] w fun e w' => e = .returned (.string ⟨#[]⟩) ∧ w' = w := Any.strings_Join_none Tryz.lays156 Tryz.Builder_Extra_156 a c sep w
open Go.RowKit in
theorem Tryz.strings_Join (bk o c : Nat) (xs : List ByteArray) (sep : ByteArray) (w : World) (hcells : ∀ (j : Nat) x, xs[j]? = some x → w.cell? ⟨bk, o + j, none⟩ = some (.string x)) (hbk : bk < w.heap.size) (hN : xs.length ≤ 140737488355328) (hcap : xs.length ≤ c) (hlen : (Lib.join (xs.map (·.data.toList)) sep.data.toList).length ≤ 140737488355328) :
    Calls Tryz.prog 117 #[.slice (some ⟨bk, o, none⟩) xs.length c, .string sep] w fun e w' => e = .returned (.string ⟨(Lib.join (xs.map (·.data.toList)) sep.data.toList).toArray⟩) ∧ Below w.heap.size w w' := Any.strings_Join Tryz.lays156 Tryz.Builder_Extra_156 bk o c xs sep w hcells hbk hN hcap hlen
end Go.Proofs
end
section
namespace Go.Proofs.YtanfohlpkppeiaaGreat.Print
open Go.RowKit Go.Proofs.YtanfohlpkppeiaaGreatV.PrintWords Go.Proofs.YtanfohlpkppeiaaGreatV.PrintLast Go.Proofs.YtanfohlpkppeiaaGreatV.PrintMore
attribute [local go_sem] max2_int min2_int max_two min_two max_three min_three max_four min_four
set_option linter.unusedVariables false
set_option linter.unusedSimpArgs false
set_option maxHeartbeats 80000000
set_option maxRecDepth 100000
def strings_Join.f (a : List ByteArray) (b : ByteArray) : Option ByteArray := if a.length ≤ 140737488355328 ∧ (Lib.join (a.map (·.data.toList)) b.data.toList).length ≤ 140737488355328 then some ⟨(Lib.join (a.map (·.data.toList)) b.data.toList).toArray⟩ else none
theorem strings_Join.calls (i : Option Addr) (d : Nat) (a : List ByteArray) (g : ByteArray) (r : ByteArray) (w : World) (k : Kd.C Kd.string w i a.length a) (l : a.length ≤ d) (h : strings_Join.f a g = some r) :
 Calls Tryz.prog 117 #[.slice i a.length d, .string g] w fun e w' => e = .returned (.string r) ∧ Below w.heap.size w w' := by
 unfold strings_Join.f at h
 split at h
 ·
  rename_i hb
  injection h with h
  subst h
  by_cases h0 : a = []
  ·
   subst h0
   exact (Tryz.strings_Join_none i d g w).mono fun e w' ⟨he, hw⟩ => ⟨he, hw ▸ Below.refl _ _⟩
  obtain ⟨ad, rfl, hcell⟩ := k.2.2 (List.length_pos_iff.2 h0)
  have hc : ∀ (j : Nat) x, a[j]? = some x → w.cell? (ad.add j) = some (.string x) := by
   intro j x hx
   obtain ⟨c, hl, hk, hu⟩ := hcell j x hx
   have := hu 0 (.string x) (by rw [show c = [.string x] from hk]; rfl)
   simpa [Kd.string, Kd.scalar] using this
  have hp : 0 < a.length := List.length_pos_iff.2 h0
  have hs := hc 0 a[0] (List.getElem?_eq_getElem hp)
  have hb0 : ad.block < w.heap.size := by
   have h1 := hs
   rw [show ad.add 0 = ad from rfl] at h1
   unfold World.cell? at h1
   by_cases hlt : ad.block < w.heap.size
   ·
    exact hlt
   rw [Array.getElem?_eq_none (by omega)] at h1; simp at h1
  have hspot : ad = ⟨ad.block, ad.off, none⟩ := by
   have h1 := hs
   rw [show ad.add 0 = ad from rfl] at h1
   unfold World.cell? at h1
   rcases ad with ⟨b, o, s⟩
   cases s with
   | none => rfl
   | some s => simp only [Option.isSome_some, if_true] at h1; split at h1 <;> simp at h1
  have hcells : ∀ (j : Nat) x, a[j]? = some x → w.cell? ⟨ad.block, ad.off + j, none⟩ = some (.string x) := by
   intro j x hx
   have := hc j x hx
   unfold Addr.add at this
   by_cases hj : j = 0
   ·
    subst hj; rw [if_pos rfl] at this; rw [hspot] at this; exact this
   rw [if_neg hj] at this; exact this
  rw [show (some ad : Option Addr) = some ⟨ad.block, ad.off, none⟩ from by rw [← hspot]]
  exact Tryz.strings_Join ad.block ad.off d a g w hcells hb0 hb.1 l hb.2
 exact absurd h (by simp)
def impl_SetText.l0 : Nat → List ByteArray → List (S99) → Int → Int → Option (ByteArray)
 | 0, _, _, _, _ => none
 | k + 1, e, c, d, a => if a < d then (if 0 ≤ a then (if a < (c.length : Int) then (if ((rd_T99 c a).f0).size + 2 ≤ 9223372036854775807 then (if (((rd_T99 c a).f0) ++ (⟨#[61, 34]⟩ : ByteArray)).size + ((rd_T99 c a).f1).size ≤ 9223372036854775807 then (if ((((rd_T99 c a).f0) ++ (⟨#[61, 34]⟩ : ByteArray)) ++ ((rd_T99 c a).f1)).size + 1 ≤ 9223372036854775807 then (if e.length < 8796093022208 then (impl_SetText.l0 k (e ++ [((((rd_T99 c a).f0) ++ (⟨#[61, 34]⟩ : ByteArray)) ++ ((rd_T99 c a).f1)) ++ (⟨#[34]⟩ : ByteArray)]) c d (wrap64 (a + 1))) else (none)) else (none)) else (none)) else (none)) else (none)) else (none)) else ((strings_Join.f e (⟨#[44, 32]⟩ : ByteArray)).bind fun b => (if 1 + b.size ≤ 9223372036854775807 then (if ((⟨#[123]⟩ : ByteArray) ++ b).size + 1 ≤ 9223372036854775807 then (some (((⟨#[123]⟩ : ByteArray) ++ b) ++ (⟨#[125]⟩ : ByteArray))) else (none)) else (none)))
def impl_SetText.f (k : Nat) (l0 : List (S99)) : Option (ByteArray) := (impl_SetOk.f k l0).bind fun a => (if a = true then (impl_SetText.l0 k ([] : List ByteArray) l0 (l0.length : Int) 0) else (some (⟨#[]⟩ : ByteArray)))
theorem impl_SetText.calls (k : Nat) (Q : Option Addr) (S : Nat) (l0 : List (S99)) (r : ByteArray) (w : World) (A : Kd.C k99 w Q l0.length l0) (B : l0.length ≤ S) (h : impl_SetText.f k l0 = some r) :
  Calls Tryz.prog 96 #[.slice Q l0.length S] w fun e w' => e = .returned (.string r) ∧ Below w.heap.size w w' := by
 have hu99 := Tryz.underlying99
 have D := M_ A
 have T := M_ B
 clear A B
 have m := M_ (Below.refl w.heap.size w)
 unfold impl_SetText.f at h
 have H := h; clear h
 replace H := bi_ H; obtain ⟨E, A2, H⟩ := H
 have AHz_ := M_ H
 clear H
 go_enter Tryz.func96, Tryz.ntmps96
 go_wp2_with (first | (((with_reducible refine gate_callee (f := 116) rfl ?_); refine gl_ (some 7) Tryz.func116 #[.slice Q l0.length S] ?_; (with_reducible refine (impl_SetOk.calls k _ _ l0 E _ ?_ ?_ A2.1).mono ?_); exact cp_ (D.1); exact T.1; rintro e w4 ⟨rfl, hb⟩; refine ⟨_, rfl, ?_⟩; replace m := st_ m hb; (try clear hb)); refine Aside0.out ?_))
 have H := AHz_.1
 clear AHz_
 replace H := ib_ H; rcases H with ⟨rfl, H⟩ | ⟨rfl, H⟩
 ·
  have H' := M_ H
  clear H
  refine ⟨?_⟩
  go_wp2
  go_loopg [3, 11] k (fun kq v3 U w' => ∃ (d : List ByteArray) (a : Int), U = .int .i64 a ∧ Aside0 (impl_SetText.l0 kq d l0 (l0.length : Int) a = some r) ∧ Aside0 (kq ≤ k) ∧ Aside0 (Kd.R Kd.string 9 w' w.heap.size (fun _ => True) v3 d) ∧ Aside0 (Below w.heap.size w w'))
  case atStart => exact ⟨(([] : List ByteArray)), (0), rs_, H', ⟨Nat.le_refl _⟩, ⟨by first | exact Kd.R_nil _ _ _ _ _ | exact Kd.N_nil _ _ _ _ _ | exact Kd.V_nil _ _ _ _ _ | exact Kd.Q_nil _ _ _ _ _ | exact Kd.S_nil _ _ _ _ _⟩, ⟨hs_ m.1⟩⟩
  case round =>
   clear H'
   obtain ⟨d, a, rfl, V, F, c, m⟩ := hrel
   cases gk with
   | zero => exact absurd V.1 (by simp [impl_SetText.l0])
   | succ k1 =>
    have H := V.1
    clear V
    simp only [impl_SetText.l0] at H
    replace H := ie_ H; rcases H with ⟨G, H⟩ | ⟨G, H⟩
    ·
     have I := decide_eq_true G
     clear G
     replace H := i2_ H; obtain ⟨ua, va, H⟩ := H
     replace H := in_ H; obtain ⟨W, H⟩ := H
     have wa := eq_true W
     have xa := decide_eq_true W
     try have ya : (9223372036854775807 < ((rd_T99 l0 a).f0).size + 2) = False := eq_false (Nat.not_lt.2 W)
     replace H := in_ H; obtain ⟨P, H⟩ := H
     have za := eq_true P
     have Aa := decide_eq_true P
     try have Ba : (9223372036854775807 < (((rd_T99 l0 a).f0) ++ (⟨#[61, 34]⟩ : ByteArray)).size + ((rd_T99 l0 a).f1).size) = False := eq_false (Nat.not_lt.2 P)
     have n := P
     simp only [ByteArray.size_append, show (⟨#[61, 34]⟩ : ByteArray).size = 2 from rfl] at n
     have Ca := eq_false (Nat.not_lt.2 n)
     have Da := decide_eq_true n
     have Ea := eq_true n
     clear n
     replace H := in_ H; obtain ⟨q, H⟩ := H
     have X := eq_true q
     have Y := decide_eq_true q
     try have Z : (9223372036854775807 < ((((rd_T99 l0 a).f0) ++ (⟨#[61, 34]⟩ : ByteArray)) ++ ((rd_T99 l0 a).f1)).size + 1) = False := eq_false (Nat.not_lt.2 q)
     have j := q
     simp only [ByteArray.size_append, show (⟨#[61, 34]⟩ : ByteArray).size = 2 from rfl] at j
     have aa := eq_false (Nat.not_lt.2 j)
     have ba := decide_eq_true j
     have ca := eq_true j
     clear j
     replace H := im_ H; obtain ⟨u, H⟩ := H
     obtain ⟨t, hy_⟩ : ∃ y_ : List ByteArray, y_ = (d ++ [((((rd_T99 l0 a).f0) ++ (⟨#[61, 34]⟩ : ByteArray)) ++ ((rd_T99 l0 a).f1)) ++ (⟨#[34]⟩ : ByteArray)]) := ⟨_, rfl⟩
     replace H : (impl_SetText.l0 k1 t l0 (l0.length : Int) (wrap64 (a + 1))) = some r := hm_
     have v := M_ hy_; clear hy_
     have H' := M_ H
     clear H
     obtain ⟨da, J, K, L, Fa, Ga⟩ := au_T99 D.1 m a
     cases J
     go_wp2_with (first | ((with_reducible refine gd_ 5 rfl ?_); refine bV_ 5 #[.string (⟨#[]⟩ : ByteArray), .string (⟨#[]⟩ : ByteArray)] 99 ?_; intro x hg Ka i hb; replace c := rb_ c hb; have ea := gq_ hg m; replace m := st_ m hb; clear hb hg; obtain ⟨fa, ga, ha, ia⟩ := bc2_ i.1) | ((with_reducible refine gate_builtin (b := .append) (xs := #[.tmp 15, .tmp 23]) rfl ?_); at_builtin; refine Kd.R_append Kd.string (w0 := w) w.heap.size rfl (.tmp 15) (.tmp 23) 117 9 (.string ⟨#[]⟩) 16 rfl Tryz.underlying117 info9 rfl (by decide) (by omega) u3 d (((((rd_T99 l0 a).f0) ++ (⟨#[61, 34]⟩ : ByteArray)) ++ ((rd_T99 l0 a).f1)) ++ (⟨#[34]⟩ : ByteArray)) [.string (((((rd_T99 l0 a).f0) ++ (⟨#[61, 34]⟩ : ByteArray)) ++ ((rd_T99 l0 a).f1)) ++ (⟨#[34]⟩ : ByteArray))] (fun _ => True) (fun _ => False) rfl (by first | (go_simp; done) | (go_simp; rfl)) ?aP (fun _ hk => hk.elim) ?aF ?aO ?aB ?aS ?aL ?_; (case aP => exact rfl); (case aB => exact (hs_ m.1)); (case aF => exact (fun _ _ => trivial)); (case aO => exact (Kd.R_mono (ry_ c.1 i.1) (fun _ hk => trivial))); (case aS => exact (below_size (hs_ m.1))); (case aL => have := u.1; omega); intro Ha La ho hb hg hat; rw [← v.1] at ho; replace i := M_ (blk_grown (g := x) (o := .cells #[.string ((rd_T99 l0 a).f0), .string ((rd_T99 l0 a).f1)] 99 (0, 0)) (bp_ i.1) hg (Kd.R_ne c.1 i.1 (by decide))); replace m := M_ (hb); have y := M_ (ho); clear c; clear ho hb hg hat))
     go_roundg k1
     case measure => have := F.1; omega
     case rel => exact ⟨(t), (wrap64 (a + 1)), rs_, H', ⟨by have := F.1; omega⟩, ⟨rp_ y.1⟩, ⟨hs_ m.1⟩⟩
    have I : decide (a < (l0.length : Int)) = false := decide_eq_false G
    clear G
    replace H := bi_ H; obtain ⟨p, ja, H⟩ := H
    replace H := in_ H; obtain ⟨z, H⟩ := H
    have ka := eq_true z
    have la := decide_eq_true z
    try have ma : (9223372036854775807 < 1 + p.size) = False := eq_false (Nat.not_lt.2 z)
    replace H := in_ H; obtain ⟨s, H⟩ := H
    have na := eq_true s
    have oa := decide_eq_true s
    try have pa : (9223372036854775807 < ((⟨#[123]⟩ : ByteArray) ++ p).size + 1) = False := eq_false (Nat.not_lt.2 s)
    have l := s
    simp only [ByteArray.size_append, show (⟨#[123]⟩ : ByteArray).size = 1 from rfl] at l
    have qa := eq_false (Nat.not_lt.2 l)
    have ra := decide_eq_true l
    have sa := eq_true l
    clear l
    obtain rfl := Option.some.inj H
    obtain ⟨M, N, O⟩ := Kd.R_slice c.1
    subst O
    go_wp2_with (first | ((with_reducible refine gate_callee (f := 117) rfl ?_); refine gl_ (some 27) Tryz.func117 #[.slice M d.length N, .string (⟨#[44, 32]⟩ : ByteArray)] ?_; (with_reducible refine (strings_Join.calls _ _ d (⟨#[44, 32]⟩ : ByteArray) p _ ?_ ?_ ja.1).mono ?_); exact cp_ ((Kd.R_reads' c.1).2.2); exact (Kd.R_reads' c.1).2.1; rintro e Ma ⟨rfl, hb⟩; refine ⟨_, rfl, ?_⟩; obtain ⟨c, m⟩ := u2_ hb c m; (try clear hb)))
    go_ret
    exact an_ (hs_ m.1)
 obtain rfl := Option.some.inj H
 refine ⟨?_⟩
 go_wp2
 go_ret
 exact an_ (hs_ m.1)
def impl_Finger.f (k : Nat) (c : List (S99)) : Option (Int) := (impl_SetText.f k c).bind fun b => ((impl_Sum.f k b).bind fun a => (some (Int.tmod (Go.bits .xor .i64 a (a / 65536)) 32)))
theorem impl_Finger.calls (k : Nat) (i : Option Addr) (j : Nat) (b : List (S99)) (r : Int) (w : World) (c : Kd.C k99 w i b.length b) (d : b.length ≤ j) (h : impl_Finger.f k b = some r) :
  Calls Tryz.prog 55 #[.slice i b.length j] w fun e w' => e = .returned (.int .i64 r) ∧ Below w.heap.size w w' := by
 have l := M_ c
 have m := M_ d
 clear c d
 have n := M_ (Below.refl w.heap.size w)
 unfold impl_Finger.f at h
 have H := h; clear h
 replace H := bi_ H; obtain ⟨a, o, H⟩ := H
 replace H := bi_ H; obtain ⟨g, p, H⟩ := H
 obtain rfl := Option.some.inj H
 go_enter Tryz.func55, Tryz.ntmps55
 go_wp2_with (first | ((with_reducible refine gate_callee (f := 96) rfl ?_); refine gl_ (some 5) Tryz.func96 #[.slice i b.length j] ?_; (with_reducible refine (impl_SetText.calls k _ _ b a _ ?_ ?_ o.1).mono ?_); exact cp_ (l.1); exact m.1; rintro e q ⟨rfl, hb⟩; refine ⟨_, rfl, ?_⟩; replace n := st_ n hb; (try clear hb)) | ((with_reducible refine gate_callee (f := 95) rfl ?_); refine gl_ (some 6) Tryz.func95 #[.string a] ?_; (with_reducible refine (impl_Sum.calls k a g _ p.1).mono ?_); rintro e w' ⟨rfl, ⟨s, rfl⟩⟩; refine ⟨_, rfl, ?_⟩))
 go_ret
 exact an_ (hs_ n.1)
def impl_chainOf.l0 : Nat → Int → List (S80) → Int → Int → Option (Int)
 | 0, _, _, _, _ => none
 | k + 1, c, b, d, a => if a < d then (if 0 ≤ a then (if a < (b.length : Int) then (if ((rd_T80 b a).f0) = c then (some a) else (impl_chainOf.l0 k c b d (wrap64 (a + 1)))) else (none)) else (none)) else (some (-1))
def impl_chainOf.f (k : Nat) (b : Int) (c : Int) (a : List (S80)) (d : Int) : Option (Int) := impl_chainOf.l0 k d a (a.length : Int) 0
theorem impl_chainOf.calls (k : Nat) (g : Int) (i : Int) (j : Option Addr) (l : Nat) (a : List (S80)) (p : Int) (r : Int) (w : World) (n : Kd.C k80 w j a.length a) (o : a.length ≤ l) (h : impl_chainOf.f k g i a p = some r) :
  Calls Tryz.prog 56 #[.agg #[.int .i64 g, .int .i64 i, .slice j a.length l], .int .i64 p] w fun e w' => e = .returned (.int .i64 r) ∧ Below w.heap.size w w' := by
 have hu26 := Tryz.underlying26
 have hu80 := Tryz.underlying80
 have q := M_ n
 have L := M_ o
 clear n o
 have m := M_ (Below.refl w.heap.size w)
 unfold impl_chainOf.f at h
 have H := h; clear h
 have H' := M_ H
 clear H
 go_enter Tryz.func56, Tryz.ntmps56
 go_wp2_with (first | ((with_reducible refine gd_ 2 rfl ?_); refine bV_ 2 #[.int .i64 g, .int .i64 i, .slice j a.length l] 26 ?_; intro s hg w3 c hb; have M := gq_ hg m; replace m := st_ m hb; clear hb hg; obtain ⟨X, Y, Z, aa, ba, ca⟩ := bc3_ c.1))
 go_loopg [10] k (fun kq N w' => ∃ (b : Int), N = .int .i64 b ∧ Aside0 (impl_chainOf.l0 kq p a (a.length : Int) b = some r) ∧ Aside0 (kq ≤ k) ∧ Aside0 (w'.heap[s]? = some (.cells #[.int .i64 g, .int .i64 i, (.slice j a.length l)] 26 (0, 0))) ∧ Aside0 (Below w.heap.size w w'))
 case atStart => exact ⟨(0), rs_, H', ⟨Nat.le_refl _⟩, ⟨bq_ c.1⟩, ⟨hs_ m.1⟩⟩
 case round =>
  clear H'
  obtain ⟨b, rfl, O, x, c, m⟩ := hrel
  cases gk with
  | zero => exact absurd O.1 (by simp [impl_chainOf.l0])
  | succ k1 =>
   have H := O.1
   clear O
   simp only [impl_chainOf.l0] at H
   replace H := ie_ H; rcases H with ⟨y, H⟩ | ⟨y, H⟩
   ·
    have z := decide_eq_true y
    clear y
    replace H := i2_ H; obtain ⟨da, ea, H⟩ := H
    have AHz_ := M_ H
    clear H
    obtain ⟨P, J, K, A, B, D, E, F, fa, ga⟩ := au_T80 q.1 m b
    cases A
    go_wp2_with (first | (((with_reducible refine gd_ 6 rfl ?_); refine bV_ 6 #[.int .i64 0, .slice none 0 0] 80 ?_; intro Q hg w9 t hb; have R := gq_ hg m; replace m := st_ m hb; obtain ⟨u, d, c⟩ := nb_ c hg hb; clear hb hg; have S := n2_ d; obtain ⟨T, U, V, W⟩ := bc2_ t.1); refine Aside0.out ?_))
    have H := AHz_.1
    clear AHz_
    replace H := ie_ H; rcases H with ⟨v, H⟩ | ⟨v, H⟩
    ·
     have G : (((rd_T80 a b).f0) == p) = true := beq_iff_eq.mpr v
     have I : (((rd_T80 a b).f0) != p) = false := bne_eq_false_iff_eq.mpr v
     clear v
     obtain rfl := Option.some.inj H
     refine ⟨?_⟩
     go_wp2
     go_ret
     exact an_ (hs_ m.1)
    have G : (((rd_T80 a b).f0) == p) = false := beq_eq_false_iff_ne.mpr v
    have I : (((rd_T80 a b).f0) != p) = true := bne_iff_ne.mpr v
    have H' := M_ H
    clear H
    refine ⟨?_⟩
    go_wp2
    go_roundg k1
    case measure => have := x.1; omega
    case rel => exact ⟨(wrap64 (b + 1)), rs_, H', ⟨by have := x.1; omega⟩, ⟨bq_ c.1⟩, ⟨hs_ m.1⟩⟩
   have z : decide (b < (a.length : Int)) = false := decide_eq_false y
   clear y
   obtain rfl := Option.some.inj H
   go_wp2
   go_ret
   exact an_ (hs_ m.1)
end Go.Proofs.YtanfohlpkppeiaaGreat.Print
end
section
namespace Go.Proofs.YtanfohlpkppeiaaGreat.Print
open Go.RowKit Go.Proofs.YtanfohlpkppeiaaGreatV.PrintWords Go.Proofs.YtanfohlpkppeiaaGreatV.PrintLast Go.Proofs.YtanfohlpkppeiaaGreatV.PrintMore
attribute [local go_sem] max2_int min2_int max_two min_two max_three min_three max_four min_four
set_option linter.unusedVariables false
set_option linter.unusedSimpArgs false

attribute [local go_sem high] eqA99
set_option maxHeartbeats 80000000
set_option maxRecDepth 100000
def impl_SameSet.l0 : Nat → List (S99) → List (S99) → Int → Int → Option (Bool)
 | 0, _, _, _, _ => none
 | k + 1, c, d, b, a => if a < b then (if 0 ≤ a then (if a < (c.length : Int) then (if a < (d.length : Int) then (if (!((((rd_T99 c a).f0).toList) == (((rd_T99 d a).f0).toList)) || (!((((rd_T99 c a).f1).toList) == (((rd_T99 d a).f1).toList)))) = true then (some false) else (impl_SameSet.l0 k c d b (wrap64 (a + 1)))) else (none)) else (none)) else (none)) else (some true)
def impl_SameSet.f (k : Nat) (l0 : List (S99)) (a : List (S99)) : Option (Bool) := if (l0.length : Int) = (a.length : Int) then (impl_SameSet.l0 k l0 a (l0.length : Int) 0) else (some false)
theorem impl_SameSet.calls (k : Nat) (N : Option Addr) (O : Nat) (l0 : List (S99)) (P : Option Addr) (Q : Nat) (i : List (S99)) (r : Bool) (w : World) (u : Kd.C k99 w N l0.length l0) (v : l0.length ≤ O) (x : Kd.C k99 w P i.length i) (y : i.length ≤ Q) (h : impl_SameSet.f k l0 i = some r) :
  Calls Tryz.prog 72 #[.slice N l0.length O, .slice P i.length Q] w fun e w' => e = .returned (.bool r) ∧ Drawn0 w w' := by
 have hu99 := Tryz.underlying99
 have z := M_ u
 have U := M_ v
 clear u v
 have A := M_ x
 have V := M_ y
 clear x y
 unfold impl_SameSet.f at h
 have H := h; clear h
 replace H := ie_ H; rcases H with ⟨q, H⟩ | ⟨q, H⟩
 ·
  have B : ((l0.length : Int) == (i.length : Int)) = true := beq_iff_eq.mpr q
  have D : ((l0.length : Int) != (i.length : Int)) = false := bne_eq_false_iff_eq.mpr q
  have E : (l0.length == i.length) = true := by first | simpa using q | (simp at q ⊢; omega)
  clear q
  have H' := M_ H
  clear H
  go_enter Tryz.func72, Tryz.ntmps72
  go_wp2
  repeat (go_quiet (fail); try go_wp2)
  go_loopg [13] k (fun kq L w' => ∃ (a : Int), L = .int .i64 a ∧ Aside0 (impl_SameSet.l0 kq l0 i (l0.length : Int) a = some r) ∧ Aside0 (kq ≤ k) ∧ Drawn0 w w')
  case atStart => exact ⟨(0), rs_, H', ⟨Nat.le_refl _⟩, by repeat (first | exact Drawn0.refl _ | apply Drawn0.step)⟩
  case round =>
   clear H'
   obtain ⟨a, rfl, M, F, ⟨m1, rfl⟩⟩ := hrel
   cases gk with
   | zero => exact absurd M.1 (by simp [impl_SameSet.l0])
   | succ W =>
    have H := M.1
    clear M
    simp only [impl_SameSet.l0] at H
    replace H := ie_ H; rcases H with ⟨G, H⟩ | ⟨G, H⟩
    ·
     have I := decide_eq_true G
     clear G
     replace H := i2_ H; obtain ⟨R, S, H⟩ := H
     replace H := id_ H; obtain ⟨T, H⟩ := H
     replace H := ie_ H; rcases H with ⟨J, H⟩ | ⟨J, H⟩
     ·
      have K : (!((((rd_T99 l0 a).f0).toList) == (((rd_T99 i a).f0).toList)) || (!((((rd_T99 l0 a).f1).toList) == (((rd_T99 i a).f1).toList)))) = true := J
      clear J
      obtain rfl := Option.some.inj H
      obtain ⟨b, c⟩ : 0 ≤ (a : Int) ∧ a < (l0.length : Int) := pq_
      obtain ⟨s, j, l, m⟩ := at_T99 z.1 a b c
      cases j
      replace b := eq_true b; replace c := eq_true c
      obtain ⟨d, g⟩ : 0 ≤ (a : Int) ∧ a < (i.length : Int) := pq_
      obtain ⟨t, n, o, p⟩ := at_T99 A.1 a d g
      cases n
      replace d := eq_true d; replace g := eq_true g
      go_wp2
      repeat (go_quiet (fail); try go_wp2)
      go_ret
      exact ⟨by first | rfl | (simp; done) | (simp [*]; done), by repeat (first | exact Drawn0.refl _ | apply Drawn0.step)⟩
     have K : (!((((rd_T99 l0 a).f0).toList) == (((rd_T99 i a).f0).toList)) || (!((((rd_T99 l0 a).f1).toList) == (((rd_T99 i a).f1).toList)))) = false := by simpa using J
     clear J
     have H' := M_ H
     clear H
     obtain ⟨b, c⟩ : 0 ≤ (a : Int) ∧ a < (l0.length : Int) := pq_
     obtain ⟨s, j, l, m⟩ := at_T99 z.1 a b c
     cases j
     replace b := eq_true b; replace c := eq_true c
     obtain ⟨d, g⟩ : 0 ≤ (a : Int) ∧ a < (i.length : Int) := pq_
     obtain ⟨t, n, o, p⟩ := at_T99 A.1 a d g
     cases n
     replace d := eq_true d; replace g := eq_true g
     go_wp2
     repeat (go_quiet (fail); try go_wp2)
     go_roundg W
     case measure => have := F.1; omega
     case rel => exact ⟨(wrap64 (a + 1)), rs_, H', ⟨by have := F.1; omega⟩, by repeat (first | exact Drawn0.refl _ | apply Drawn0.step)⟩
    have I : decide (a < (l0.length : Int)) = false := decide_eq_false G
    clear G
    obtain rfl := Option.some.inj H
    go_wp2
    repeat (go_quiet (fail); try go_wp2)
    go_ret
    exact ⟨by first | rfl | (simp; done) | (simp [*]; done), by repeat (first | exact Drawn0.refl _ | apply Drawn0.step)⟩
 have B : ((l0.length : Int) == (i.length : Int)) = false := beq_eq_false_iff_ne.mpr q
 have D : ((l0.length : Int) != (i.length : Int)) = true := bne_iff_ne.mpr q
 have E : (l0.length == i.length) = false := by first | simpa using q | (simp at q ⊢; omega)
 obtain rfl := Option.some.inj H
 go_enter Tryz.func72, Tryz.ntmps72
 go_wp2
 repeat (go_quiet (fail); try go_wp2)
 go_ret
 exact ⟨by first | rfl | (simp; done) | (simp [*]; done), by repeat (first | exact Drawn0.refl _ | apply Drawn0.step)⟩
end Go.Proofs.YtanfohlpkppeiaaGreat.Print
end
section
namespace Go.Proofs.YtanfohlpkppeiaaGreat.Print
open Go.RowKit Go.Proofs.YtanfohlpkppeiaaGreatV.PrintWords Go.Proofs.YtanfohlpkppeiaaGreatV.PrintLast Go.Proofs.YtanfohlpkppeiaaGreatV.PrintMore
attribute [local go_sem] max2_int min2_int max_two min_two max_three min_three max_four min_four
set_option linter.unusedVariables false
set_option linter.unusedSimpArgs false
set_option maxHeartbeats 80000000
set_option maxRecDepth 100000
def impl_labelsAt.l0 : Nat → List (S99) → List (S29) → Int → Int → Option (Int)
 | 0, _, _, _, _ => none
 | k + 1, d, c, e, a => if a < e then (if 0 ≤ a then (if a < (c.length : Int) then ((impl_SameSet.f k ((rd_T29 c a).f0) d).bind fun b => (if b = true then (some a) else (impl_labelsAt.l0 k d c e (wrap64 (a + 1))))) else (none)) else (none)) else (some (-1))
def impl_labelsAt.f (k : Nat) (l0 : List (S29)) (a : List (S99)) : Option (Int) := impl_labelsAt.l0 k a l0 (l0.length : Int) 0
theorem impl_labelsAt.calls (k : Nat) (M : Option Addr) (N : Nat) (l0 : List (S29)) (B : Option Addr) (D : Nat) (j : List (S99)) (r : Int) (w : World) (m : Kd.C k29 w M l0.length l0) (n : l0.length ≤ N) (o : Kd.C k99 w B j.length j) (p : j.length ≤ D) (h : impl_labelsAt.f k l0 j = some r) :
  Calls Tryz.prog 101 #[.slice M l0.length N, .slice B j.length D] w fun e w' => e = .returned (.int .i64 r) ∧ Below w.heap.size w w' := by
 have hu29 := Tryz.underlying29
 have E := M_ m
 have ba := M_ n
 clear m n
 have F := M_ o
 have G := M_ p
 clear o p
 have b := M_ (Below.refl w.heap.size w)
 unfold impl_labelsAt.f at h
 have H := h; clear h
 have H' := M_ H
 clear H
 go_enter Tryz.func101, Tryz.ntmps101
 go_wp2
 go_loopg [9] k (fun kq v9 w' => ∃ (a : Int), v9 = .int .i64 a ∧ Aside0 (impl_labelsAt.l0 kq j l0 (l0.length : Int) a = some r) ∧ Aside0 (kq ≤ k) ∧ Aside0 (Below w.heap.size w w'))
 case atStart => exact ⟨(0), rs_, H', ⟨Nat.le_refl _⟩, ⟨hs_ b.1⟩⟩
 case round =>
  clear H'
  obtain ⟨a, rfl, I, q, b⟩ := hrel
  cases gk with
  | zero => exact absurd I.1 (by simp [impl_labelsAt.l0])
  | succ O =>
   have H := I.1
   clear I
   simp only [impl_labelsAt.l0] at H
   replace H := ie_ H; rcases H with ⟨s, H⟩ | ⟨s, H⟩
   ·
    have t := decide_eq_true s
    clear s
    replace H := i2_ H; obtain ⟨P, Q, H⟩ := H
    replace H := bi_ H; obtain ⟨u, A6, H⟩ := H
    have AHz_ := M_ H
    clear H
    obtain ⟨J, g, i, v, x, y, z, A, c, d, R, S⟩ := au_T29 E.1 b a
    cases v
    go_wp2_with (first | ((with_reducible refine gd_ 6 rfl ?_); refine bV_ 6 #[.slice none 0 0, .int .i64 0, .int .i64 0, .string (⟨#[]⟩ : ByteArray)] 29 ?_; intro K hg w8 l hb; have L := gq_ hg b; replace b := st_ b hb; clear hb hg; obtain ⟨T, U, V, W, X, Y, Z, aa⟩ := bc4_ l.1) | (((with_reducible refine gate_callee (f := 72) rfl ?_); refine gl_ (some 17) Tryz.func72 #[.slice g ((rd_T29 l0 a).f0).length i, .slice B j.length D] ?_; (with_reducible refine (impl_SameSet.calls O _ _ ((rd_T29 l0 a).f0) _ _ j u _ ?_ ?_ ?_ ?_ A6.1).mono ?_); exact Kd.C_below d.1 (hs_ b.1); exact c.1; exact Kd.C_below F.1 (hs_ b.1); exact G.1; rintro e w' ⟨rfl, ⟨nd, rfl⟩⟩; refine ⟨_, rfl, ?_⟩); refine Aside0.out ?_))
    have H := AHz_.1
    clear AHz_
    replace H := ib_ H; rcases H with ⟨rfl, H⟩ | ⟨rfl, H⟩
    ·
     obtain rfl := Option.some.inj H
     refine ⟨?_⟩
     go_wp2
     go_ret
     exact an_ (hs_ b.1)
    have H' := M_ H
    clear H
    refine ⟨?_⟩
    go_wp2
    go_roundg O
    case measure => have := q.1; omega
    case rel => exact ⟨(wrap64 (a + 1)), rs_, H', ⟨by have := q.1; omega⟩, ⟨hs_ b.1⟩⟩
   have t : decide (a < (l0.length : Int)) = false := decide_eq_false s
   clear s
   obtain rfl := Option.some.inj H
   go_wp2
   go_ret
   exact an_ (hs_ b.1)
def impl_InChain.f (k : Nat) (c : Int) (a : List (S29)) (d : List (S99)) : Option (Int) := (impl_labelsAt.f k a d).bind fun b => (some b)
theorem impl_InChain.calls (k : Nat) (g : Int) (c : Option Addr) (d : Nat) (a : List (S29)) (t : Option Addr) (u : Nat) (m : List (S99)) (r : Int) (w : World) (i : Kd.C k29 w c a.length a) (j : a.length ≤ d) (p : Kd.C k99 w t m.length m) (q : m.length ≤ u) (h : impl_InChain.f k g a m = some r) :
  Calls Tryz.prog 64 #[.agg #[.int .i64 g, .slice c a.length d], .slice t m.length u] w fun e w' => e = .returned (.int .i64 r) ∧ Below w.heap.size w w' := by
 have hu80 := Tryz.underlying80
 have n := M_ i
 have o := M_ j
 clear i j
 have v := M_ p
 have x := M_ q
 clear p q
 have l := M_ (Below.refl w.heap.size w)
 unfold impl_InChain.f at h
 have H := h; clear h
 replace H := bi_ H; obtain ⟨s, F, H⟩ := H
 obtain rfl := Option.some.inj H
 go_enter Tryz.func64, Tryz.ntmps64
 go_wp2_with (first | ((with_reducible refine gd_ 2 rfl ?_); refine bV_ 2 #[.int .i64 g, .slice c a.length d] 80 ?_; intro y hg G b hb; have z := gq_ hg l; replace l := st_ l hb; clear hb hg; obtain ⟨A, B, D, E⟩ := bc2_ b.1) | ((with_reducible refine gate_callee (f := 101) rfl ?_); refine gl_ (some 8) Tryz.func101 #[.slice c a.length d, .slice t m.length u] ?_; (with_reducible refine (impl_labelsAt.calls k _ _ a _ _ m s _ ?_ ?_ ?_ ?_ F.1).mono ?_); exact cp_ ((Kd.C_below n.1 l.1)); exact o.1; exact cp_ ((Kd.C_below v.1 l.1)); exact x.1; rintro e I ⟨rfl, hb⟩; refine ⟨_, rfl, ?_⟩; obtain ⟨b, l⟩ := u2_ hb b l; (try clear hb)))
 go_ret
 exact an_ (hs_ l.1)
def impl_PutChain.f (k : Nat) (h : Int) (c : List (S29)) (g : List (S99)) (i : Int) (j : Int) (l : ByteArray) : Option (Int × (List (S29)) × Bool) := (impl_copyChain.f k h c).bind fun b => ((impl_InChain.f k h c g).bind fun a => (if a ≥ 0 then (if 0 ≤ a then (if a < (c.length : Int) then ((impl_Merge.f ((rd_T29 c a).f0) ((rd_T29 c a).f1) ((rd_T29 c a).f2) ((rd_T29 c a).f3) g i j l).bind fun d => (if a < (b.2.length : Int) then (some (b.1, (b.2.set (a : Int).toNat (⟨d.1, d.2.1, d.2.2.1, d.2.2.2⟩ : S29)), false)) else (none))) else (none)) else (none)) else ((impl_copyAlarm.f g i j l).bind fun e => (if b.2.length < 2513169434916 then (some (b.1, (b.2 ++ [(⟨e.1, e.2.1, e.2.2.1, e.2.2.2⟩ : S29)]), true)) else (none)))))
def impl_PutChain.T4 : Bool × List (List Nat × List Nat) := (true, [([], []), ([0], [0]), ([], []), ([], []), ([3], [3]), ([], []), ([4, 5], [4, 5]), ([6], [6]), ([], []), ([7, 8], [7, 8]), ([1, 2, 0, 1, 2, 3, 4, 5, 6, 7, 8, 9], [1, 2]), ([10, 9, 9, 0, 1, 2, 3, 4, 5, 6, 7, 8, 9], [9, 10])])
def impl_PutChain.B4 : List Nat := [0, 1, 0, 0, 8, 0, 56, 120, 0, 504, 1023, 2047]
theorem impl_PutChain.tab4 : rtab .any (opsOf Tryz.f57 4) = impl_PutChain.T4 := by kernel_rfl
theorem impl_PutChain.bits4 : waitsOk impl_PutChain.T4.2 impl_PutChain.B4 = true := by kernel_rfl
def impl_PutChain.T6 : Bool × List (List Nat × List Nat) := (true, [([], []), ([0], [0]), ([], []), ([2], [2]), ([3], [3]), ([1, 4, 3], [1, 4]), ([0, 1, 2, 3, 4, 5], []), ([6, 5, 5, 0, 1, 2, 3, 4, 5], [5, 6])])
def impl_PutChain.B6 : List Nat := [0, 1, 0, 4, 12, 31, 63, 127]
theorem impl_PutChain.tab6 : rtab .any (opsOf Tryz.f57 6) = impl_PutChain.T6 := by kernel_rfl
theorem impl_PutChain.bits6 : waitsOk impl_PutChain.T6.2 impl_PutChain.B6 = true := by kernel_rfl
theorem impl_PutChain.calls (k : Nat) (M : Int) (ia : Option Addr) (V : Nat) (m : List (S29)) (I : Option Addr) (J : Nat) (t : List (S99)) (z : Int) (A : Int) (B : ByteArray) (r1 : Int) (r2 : List (S29)) (r3 : Bool) (w : World) (Ga : Kd.C k29 w ia m.length m) (Ha : m.length ≤ V) (Ia : Kd.C k99 w I t.length t) (Ja : t.length ≤ J) (h : impl_PutChain.f k M m t z A B = some (r1, r2, r3)) :
  Calls Tryz.prog 57 #[.agg #[.int .i64 M, .slice ia m.length V], .agg #[.slice I t.length J, .int .i64 z, .int .i64 A, .string B]] w fun e w' => ∃ v1_ : Value, e = .returned (.tuple #[.agg #[.int .i64 r1, v1_], .bool r3]) ∧ Kd.S k29 29 w' w.heap.size (fun _ => True) v1_ r2 ∧ Below w.heap.size w w' := by
 have hu80 := Tryz.underlying80
 have hu29 := Tryz.underlying29
 have ra := M_ Ga
 have Ka := M_ Ha
 clear Ga Ha
 have sa := M_ Ia
 have ta := M_ Ja
 clear Ia Ja
 have s := M_ (Below.refl w.heap.size w)
 unfold impl_PutChain.f at h
 have H := h; clear h
 replace H := bi_ H; obtain ⟨⟨N, r⟩, A3, H⟩ := H; (try dsimp only at H)
 replace H := bi_ H; obtain ⟨i, A4, H⟩ := H
 have AHz_ := M_ H
 clear H
 go_enter Tryz.func57, Tryz.ntmps57
 go_wp2_with (first | ((with_reducible refine gd_ 2 rfl ?_); refine bV_ 2 #[.int .i64 M, .slice ia m.length V] 80 ?_; intro ua hg Xc d hb; have cb := gq_ hg s; replace s := st_ s hb; clear hb hg) | ((with_reducible refine gd_ 3 rfl ?_); refine bV_ 3 #[.slice I t.length J, .int .i64 z, .int .i64 A, .string B] 29 ?_; intro q hg Yc b hb; have db := gq_ hg s; replace s := st_ s hb; obtain ⟨va, eb, d⟩ := nb_ d hg hb; clear hb hg) | ((with_reducible refine gd_ 4 rfl ?_); refine bV_ 4 #[.int .i64 0, .slice none 0 0] 80 ?_; intro ga hg Zc l hb; have fb := gq_ hg s; replace s := st_ s hb; obtain ⟨wa, gb, d⟩ := nb_ d hg hb; obtain ⟨xa, ib, b⟩ := nb_ b hg hb; clear hb hg; have Qb := n2_ va; have Rb := n2_ wa; obtain ⟨Sb, Tb, Ub, Vb⟩ := bc2_ d.1) | ((with_reducible refine gate_callee (f := 94) rfl ?_); refine gl_ (some 9) Tryz.func94 #[.agg #[.int .i64 M, .slice ia m.length V]] ?_; (with_reducible refine (impl_copyChain.calls k M _ _ m N r _ ?_ ?_ A3.1).mono ?_); exact cp_ ((Kd.C_below ra.1 s.1)); exact Ka.1; rintro e ad ⟨Kc, rfl, ba, hb⟩; refine ⟨_, rfl, ?_⟩; have a := M_ (Kd.S_lower (Kd.S_newB ba (pb_ b.1)) (below_size (hs_ s.1))); obtain ⟨d, b, l, s⟩ := u4_ hb d b l s; (try clear hb ba)) | ((with_reducible refine gd_ 6 rfl ?_); refine bV_ 6 #[.int .i64 0, .slice none 0 0] 80 ?_; intro L hg bd c hb; replace a := sb_ a hb; have jb := gq_ hg s; replace s := st_ s hb; obtain ⟨ya, W, d⟩ := nb_ d hg hb; obtain ⟨za, X, b⟩ := nb_ b hg hb; obtain ⟨Aa, Y, l⟩ := nb_ l hg hb; clear hb hg; have Wb := n2_ W; have Xb := n2_ X; have Yb := n2_ Y; obtain ⟨Zb, ac, bc, cc⟩ := bc2_ c.1; obtain ⟨Z, D, qb⟩ := Kd.S_slice a.1; subst qb; obtain ⟨dc, ec, fc, gc⟩ := bc2_ d.1; have hc := n2_ xa; obtain ⟨ic, jc, kc, lc, mc, nc, oc, pc⟩ := bc4_ b.1) | (((with_reducible refine gate_callee (f := 64) rfl ?_); refine gl_ (some 13) Tryz.func64 #[.agg #[.int .i64 M, .slice ia m.length V], .slice I t.length J] ?_; (with_reducible refine (impl_InChain.calls k M _ _ m _ _ t i _ ?_ ?_ ?_ ?_ A4.1).mono ?_); exact Kd.C_below ra.1 (hs_ s.1); exact Ka.1; exact Kd.C_below sa.1 (hs_ s.1); exact ta.1; rintro e rb ⟨rfl, hb⟩; refine ⟨_, rfl, ?_⟩; replace a := M_ (Kd.S_below (sy_ a.1 c.1) hb); obtain ⟨d, b, l⟩ := u3_ hb d b l; replace c := by_ c #[.int .i64 N, .slice Z r.length D] hb; replace s := st_ s hb; (try clear hb)); refine Aside0.out ?_))
 have H := AHz_.1
 clear AHz_
 replace H := ie_ H; rcases H with ⟨c5, H⟩ | ⟨c5, H⟩
 ·
  have tb : decide (0 ≤ i) = true := decide_eq_true c5
  clear c5
  replace H := i2_ H; obtain ⟨Lc, Mc, H⟩ := H
  replace H := bi_ H; obtain ⟨⟨O, ca, da, ea⟩, A8, H⟩ := H; (try dsimp only at H)
  replace H := id_ H; obtain ⟨Nc, H⟩ := H
  obtain ⟨Sa, hy_⟩ : ∃ y_ : List (S29), y_ = (r.set (i : Int).toNat (⟨O, ca, da, ea⟩ : S29)) := ⟨_, rfl⟩
  replace H : (some (N, Sa, false)) = some (r1, r2, r3) := hm_
  have kb := M_ hy_; clear hy_
  simp only [Option.some.injEq, Prod.mk.injEq] at H
  obtain ⟨rfl, rfl, rfl⟩ := H
  refine ⟨?_⟩
  try go_wp2
  obtain ⟨a, d, b, l, c, s⟩ := y6_ a d b l c s
  obtain ⟨La, Ma⟩ : 0 ≤ (i : Int) ∧ i < (m.length : Int) := pq_
  obtain ⟨U, Ca, Da, ub, y, E, F, G, ja, ka⟩ := at_T29 ra.1 i La Ma
  have P := G
  have Q := F
  have R := E
  have T := y
  cases ub
  replace y := c4_ s y E F G; clear E F G; obtain ⟨y, E, F, G⟩ := y
  have la := M_ ka
  have Na := M_ ja
  clear ka ja
  replace La := eq_true La; replace Ma := eq_true Ma
  refine start_ (n := 12) (S := fun w' => c_ w' L 0 (.int .i64 N) ∧ c_ w' L 1 (.slice Z r.length D) ∧ c_ w' ua 0 (.int .i64 M) ∧ c_ w' ua 1 (.slice (some U) m.length V) ∧ c_ w' q 0 (.slice I t.length J) ∧ c_ w' q 1 (.int .i64 z) ∧ c_ w' q 2 (.int .i64 A) ∧ c_ w' q 3 (.string B) ∧ w'.cell? (U.add ((i).toNat * 4)) = some (.slice Ca ((rd_T29 m i).f0).length Da) ∧ d_ w' (U.add ((i).toNat * 4)) 1 (.int .i64 ((rd_T29 m i).f1)) ∧ d_ w' (U.add ((i).toNat * 4)) 2 (.int .i64 ((rd_T29 m i).f2)) ∧ d_ w' (U.add ((i).toNat * 4)) 3 (.string ((rd_T29 m i).f3))) (ds := [11]) (b_ 0 12) (by kernel_rfl) rfl rfl ⟨bx_ c.1 0, bx_ c.1 1, bx_ d.1 0, bx_ d.1 1, bx_ b.1 0, bx_ b.1 1, bx_ b.1 2, bx_ b.1 3, ((s.1.cell (World.block_lt_of_cell? w _ T)).trans T), ((s.1.cell (World.block_lt_of_cell? w _ R)).trans R), ((s.1.cell (World.block_lt_of_cell? w _ Q)).trans Q), ((s.1.cell (World.block_lt_of_cell? w _ P)).trans P)⟩ (fun u => ?_); refine with_tabW impl_PutChain.tab4 impl_PutChain.bits4 (fun x Oa => ?_)
  generalize rb.drew = dd at a d b l c s la y E F G u ⊢
  refine p_ x ?_
  refine qw_ 2 (m_ 12 5) x ?_
  refine qw_ 3 (m_ 12 13) x ?_
  refine qw_ 5 (m_ 12 45) x ?_
  refine qt_ 1 (m_ 12 47) x Oa u ?_
  refine qt_ 4 (b_ 6 6) x Oa u ?_
  refine p_ x ?_
  iterate 2 refine t0_ x Oa u ?_
  refine o1_ 9 (b_ 10 2) x (fun K hK => ?_)
  refine gs_ Tryz.func24 #[.agg #[.slice Ca ((rd_T29 m i).f0).length Da, .int .i64 ((rd_T29 m i).f1), .int .i64 ((rd_T29 m i).f2), .string ((rd_T29 m i).f3)], .agg #[.slice I t.length J, .int .i64 z, .int .i64 A, .string B]] ?_
  with_reducible refine (impl_Merge.calls _ _ ((rd_T29 m i).f0) ((rd_T29 m i).f1) ((rd_T29 m i).f2) ((rd_T29 m i).f3) _ _ t z A B O ca da ea _ ?_ ?_ ?_ ?_ A8.1).mono ?_
  exact cp_ ((Kd.C_below la.1 s.1))
  exact Na.1
  exact cp_ ((Kd.C_below sa.1 s.1))
  exact ta.1
  rintro e qc ⟨Oc, rfl, ba, hb⟩
  refine ⟨_, rfl, ?_⟩
  replace a := M_ (Kd.S_elder' (sp_ a.1) (Kd.R_base ba) hb)
  have Ba := rw_ ba s
  obtain ⟨d, b, l, c, s⟩ := u5_ hb d b l c s
  (try clear hb ba)
  obtain ⟨lb, mb⟩ : 0 ≤ (i : Int) ∧ (i : Int) < ((r.length : Int) : Int) := pq_
  obtain ⟨go10, Pc, Ta, Ua, gl10, cl10, HG10⟩ := Kd.S_form a.1 (by omega)
  (first | cases Ta | (injection Ta with ea_ en_ ec_; (first | subst ea_ | (injection ea_ with ea_; subst ea_)); subst ec_; clear en_))
  have GB10 := M_ Ua
  have GG10 := M_ HG10
  clear Ua gl10 HG10
  obtain ⟨_, Qc, hcl10, hM10, aa, hfr10, _, _⟩ := Kd.S_elem a.1 z29 (i : Int) lb mb
  obtain ⟨Ra, rfl, Jb⟩ := k29_openM hM10
  have Kb : World.cell? _ ⟨go10, (i : Int).toNat * 4, none⟩ = some (Ra) := aa 0 _ rfl
  have Lb : World.cell? _ ⟨go10, (i : Int).toNat * 4 + 1, none⟩ = some (.int .i64 ((rd_T29 r i).f1)) := aa 1 _ rfl
  have Mb : World.cell? _ ⟨go10, (i : Int).toNat * 4 + 2, none⟩ = some (.int .i64 ((rd_T29 r i).f2)) := aa 2 _ rfl
  have Nb : World.cell? _ ⟨go10, (i : Int).toNat * 4 + 3, none⟩ = some (.string ((rd_T29 r i).f3)) := aa 3 _ rfl
  have hf10_0 : World.frozen? _ ⟨go10, (i : Int).toNat * 4, none⟩ = false := hfr10 0
  have hf10_1 : World.frozen? _ ⟨go10, (i : Int).toNat * 4 + 1, none⟩ = false := hfr10 1
  have hf10_2 : World.frozen? _ ⟨go10, (i : Int).toNat * 4 + 2, none⟩ = false := hfr10 2
  have hf10_3 : World.frozen? _ ⟨go10, (i : Int).toNat * 4 + 3, none⟩ = false := hfr10 3
  clear hcl10 aa hfr10 hM10
  replace lb := eq_true lb; replace mb := eq_true mb
  obtain ⟨ma, na, Va⟩ := Kd.R_slice Ba.1
  (first | subst Va | (obtain ⟨rfl, rfl⟩ := si_ Va))
  have HX30 := M_ (show Kd.S k29 29 _ w.heap.size (fun k_ => ((fun k_ => k_ ≠ q)) k_ ∧ ¬ ((fun k_ => some k_ = (.slice ma O.length na : Value).ownBlock)) k_) (.slice (some ⟨go10, 0, none⟩) r.length D) r from (Kd.S_mono a.1 (fun k_ hk => ⟨hk.1.2, fun e_ => hk.2 e_⟩)))
  obtain ⟨oki30, Rc, hcl30, hM30, nb, hfr30, hoki30, hH30⟩ := Kd.S_elem HX30.out z29 (i : Int) (of_decide_eq_true (by with_reducible assumption)) (by have h_ : (i : Int) < ((r.length : Int) : Int) := of_decide_eq_true (by with_reducible assumption); first | exact h_ | (have e_ := (Kd.S_reads' a.1).1; omega) | simpa using h_)
  obtain ⟨Ob, rfl, Pb⟩ := k29_openM hM30
  have HP30 := (Kd.S_seg hH30 (of_decide_eq_true (by with_reducible assumption)) (by have h_ : (i : Int) < ((r.length : Int) : Int) := of_decide_eq_true (by with_reducible assumption); first | exact h_ | (have e_ := (Kd.S_reads' a.1).1; omega) | simpa using h_) (seg := [.slice ma O.length na, .int .i64 ca, .int .i64 da, .string ea]) (j := 0) (show 4 ≤ 4 from by decide) (x' := (⟨O, ca, da, ea⟩ : S29)) (okg := (fun k_ => some k_ = (.slice ma O.length na : Value).ownBlock)) (okp := fun k_ => oki30 k_ ∨ ((fun k_ => some k_ = (.slice ma O.length na : Value).ownBlock)) k_) (k29_mkM _ _ _ (⟨O, ca, da, ea⟩ : S29) (Kd.R_mono (Kd.R_tight rfl (Kd.R_mono (ok' := fun k_ => ((fun k_ => k_ ≠ q)) k_ ∧ k_ ≠ go10) (Kd.R_types (Kd.R_apart' (Ba.1) (Kd.S_typed a.1) (by decide)) b.1 (by decide)) (fun k_ hk => ⟨hk.2, fun e_ => (hk.1.2) (by rw [e_]; rfl)⟩))) (fun _ h_ => Or.inr (h_)))) (fun _ hk => hk) (fun k_ hk_ => ((Kd.R_mono (ok' := fun k_ => ((fun k_ => k_ ≠ q)) k_ ∧ k_ ≠ go10) (Kd.R_types (Kd.R_apart' (Ba.1) (Kd.S_typed a.1) (by decide)) b.1 (by decide)) (fun k_ hk => ⟨hk.2, fun e_ => (hk.1.2) (by rw [e_]; rfl)⟩))).1 k_ hk_.symm)).1
  rw [← kb.1] at HP30
  have HQ30 := M_ HP30
  clear hcl30 nb hfr30 hM30 HP30
  refine ho_ hK ⟨bx_ c.1 0, bx_ c.1 1, bx_ d.1 0, bx_ d.1 1, bx_ b.1 0, bx_ b.1 1, bx_ b.1 2, bx_ b.1 3, ((s.1.cell (World.block_lt_of_cell? w _ T)).trans T), ((s.1.cell (World.block_lt_of_cell? w _ R)).trans R), ((s.1.cell (World.block_lt_of_cell? w _ Q)).trans Q), ((s.1.cell (World.block_lt_of_cell? w _ P)).trans P)⟩ (fun u => ?_)
  refine p_ x ?_
  refine l1_ 11 (b_ 12 0) x (fun K hK => ?_)
  refine skip_ (w1 := ?_) (by rfl) rfl ?_ ?_
  rotate_left
  ·
   go_simp
   rfl
  refine hK.out _ _ ?_
  clear hK K
  refine done_ (done_of x.1 (by kernel_rfl)) ?_
  generalize hw_ : ((((qc.setCell ⟨go10, (i : Int).toNat * 4, none⟩ (.slice ma O.length na)).setCell ⟨go10, (i : Int).toNat * 4 + 1, none⟩ (.int .i64 ca)).setCell ⟨go10, (i : Int).toNat * 4 + 2, none⟩ (.int .i64 da)).setCell ⟨go10, (i : Int).toNat * 4 + 3, none⟩ (.string ea)) = Fa
  have vb : Aside0 (Kd.S k29 29 Fa w.heap.size (fun k_ => k_ ≠ q) (.slice (some ⟨go10, 0, none⟩) r.length D) Sa) := ⟨by rw [← hw_]; exact (by (with_reducible repeat (first | apply Kd.S_alloc | apply Kd.S_drewN | apply Kd.S_drew)); exact HQ30.out)⟩
  have wb : Aside0 (Fa.heap[ua]? = some (.cells #[.int .i64 M, .slice (some U) m.length V] 80 (0, 0))) := ⟨by rw [← hw_]; exact (by (with_reducible repeat (first | refine kn_ ?_ _ | refine kd_ ?_ | refine ka_ ?_ _)); refine blk_far ?_ (by have h_ := Kd.S_ne a.1 d.1 (by decide); intro e_; exact h_ (by rw [e_]; rfl)) _; (with_reducible repeat (first | refine kn_ ?_ _ | refine kd_ ?_ | refine ka_ ?_ _)); refine blk_far ?_ (by have h_ := Kd.S_ne a.1 d.1 (by decide); intro e_; exact h_ (by rw [e_]; rfl)) _; (with_reducible repeat (first | refine kn_ ?_ _ | refine kd_ ?_ | refine ka_ ?_ _)); refine blk_far ?_ (by have h_ := Kd.S_ne a.1 d.1 (by decide); intro e_; exact h_ (by rw [e_]; rfl)) _; (with_reducible repeat (first | refine kn_ ?_ _ | refine kd_ ?_ | refine ka_ ?_ _)); refine blk_far ?_ (by have h_ := Kd.S_ne a.1 d.1 (by decide); intro e_; exact h_ (by rw [e_]; rfl)) _; (with_reducible repeat (first | refine kn_ ?_ _ | refine kd_ ?_ | refine ka_ ?_ _)); exact d.1)⟩
  have n2_ : Aside0 (Fa.heap[q]? = some (.cells #[.slice I t.length J, .int .i64 z, .int .i64 A, .string B] 29 (0, 0))) := ⟨by rw [← hw_]; exact (by (with_reducible repeat (first | refine kn_ ?_ _ | refine kd_ ?_ | refine ka_ ?_ _)); refine blk_far ?_ (by have h_ := Kd.S_away a.1 (fun _ hk => hk.1.2); intro e_; exact h_ (by rw [e_]; rfl)) _; (with_reducible repeat (first | refine kn_ ?_ _ | refine kd_ ?_ | refine ka_ ?_ _)); refine blk_far ?_ (by have h_ := Kd.S_away a.1 (fun _ hk => hk.1.2); intro e_; exact h_ (by rw [e_]; rfl)) _; (with_reducible repeat (first | refine kn_ ?_ _ | refine kd_ ?_ | refine ka_ ?_ _)); refine blk_far ?_ (by have h_ := Kd.S_away a.1 (fun _ hk => hk.1.2); intro e_; exact h_ (by rw [e_]; rfl)) _; (with_reducible repeat (first | refine kn_ ?_ _ | refine kd_ ?_ | refine ka_ ?_ _)); refine blk_far ?_ (by have h_ := Kd.S_away a.1 (fun _ hk => hk.1.2); intro e_; exact h_ (by rw [e_]; rfl)) _; (with_reducible repeat (first | refine kn_ ?_ _ | refine kd_ ?_ | refine ka_ ?_ _)); exact b.1)⟩
  have xb : Aside0 (Fa.heap[ga]? = some (.cells #[.int .i64 0, .slice none 0 0] 80 (0, 0))) := ⟨by rw [← hw_]; exact (by (with_reducible repeat (first | refine kn_ ?_ _ | refine kd_ ?_ | refine ka_ ?_ _)); refine blk_far ?_ (by have h_ := Kd.S_ne a.1 l.1 (by decide); intro e_; exact h_ (by rw [e_]; rfl)) _; (with_reducible repeat (first | refine kn_ ?_ _ | refine kd_ ?_ | refine ka_ ?_ _)); refine blk_far ?_ (by have h_ := Kd.S_ne a.1 l.1 (by decide); intro e_; exact h_ (by rw [e_]; rfl)) _; (with_reducible repeat (first | refine kn_ ?_ _ | refine kd_ ?_ | refine ka_ ?_ _)); refine blk_far ?_ (by have h_ := Kd.S_ne a.1 l.1 (by decide); intro e_; exact h_ (by rw [e_]; rfl)) _; (with_reducible repeat (first | refine kn_ ?_ _ | refine kd_ ?_ | refine ka_ ?_ _)); refine blk_far ?_ (by have h_ := Kd.S_ne a.1 l.1 (by decide); intro e_; exact h_ (by rw [e_]; rfl)) _; (with_reducible repeat (first | refine kn_ ?_ _ | refine kd_ ?_ | refine ka_ ?_ _)); exact l.1)⟩
  have yb : Aside0 (Fa.heap[L]? = some (.cells #[.int .i64 N, .slice (some ⟨go10, 0, none⟩) r.length D] 80 (0, 0))) := ⟨by rw [← hw_]; exact (by (with_reducible repeat (first | refine kn_ ?_ _ | refine kd_ ?_ | refine ka_ ?_ _)); refine blk_far ?_ (by have h_ := Kd.S_ne a.1 c.1 (by decide); intro e_; exact h_ (by rw [e_]; rfl)) _; (with_reducible repeat (first | refine kn_ ?_ _ | refine kd_ ?_ | refine ka_ ?_ _)); refine blk_far ?_ (by have h_ := Kd.S_ne a.1 c.1 (by decide); intro e_; exact h_ (by rw [e_]; rfl)) _; (with_reducible repeat (first | refine kn_ ?_ _ | refine kd_ ?_ | refine ka_ ?_ _)); refine blk_far ?_ (by have h_ := Kd.S_ne a.1 c.1 (by decide); intro e_; exact h_ (by rw [e_]; rfl)) _; (with_reducible repeat (first | refine kn_ ?_ _ | refine kd_ ?_ | refine ka_ ?_ _)); refine blk_far ?_ (by have h_ := Kd.S_ne a.1 c.1 (by decide); intro e_; exact h_ (by rw [e_]; rfl)) _; (with_reducible repeat (first | refine kn_ ?_ _ | refine kd_ ?_ | refine ka_ ?_ _)); exact c.1)⟩
  have zb : Aside0 (Below w.heap.size w Fa) := ⟨by rw [← hw_]; exact (by repeat (first | (with_reducible first | exact s.1 | apply ba_ | apply bn_ | apply bd_ | refine below_set ?_ GB10.out | refine below_set ?_ GB10.out | refine below_set ?_ GB10.out | refine below_set ?_ GB10.out | refine below_set ?_ cb.1 | refine below_set ?_ db.1 | refine below_set ?_ fb.1 | refine below_set ?_ jb.1) | exact s.1))⟩
  clear hw_
  (try clear a d b l c s)
  have a := vb
  have d := wb
  have b := n2_
  have l := xb
  have c := yb
  have s := zb
  clear vb wb n2_ xb yb zb
  obtain ⟨rc, sc, tc, uc⟩ := bc2_ c.1
  obtain ⟨vc, wc, xc, yc⟩ := bc2_ l.1
  try go_wp2
  refine bodyPost_ret (results_ct rfl _ _ ga 80 #[.int .i64 N, .slice (some ⟨go10, 0, none⟩) r.length D] (0, 0) _ rfl (bp_ l.1) Tryz.underlying80 rfl (by kernel_rfl)) rfl ?_
  exact ⟨_, rr_, Kd.S_mono (sy_ a.1 l.1) (fun _ hk => trivial), hs_ s.1⟩
 have tb : decide (0 ≤ i) = false := decide_eq_false c5
 clear c5
 replace H := bi_ H; obtain ⟨⟨fa, oa, pa, qa⟩, zc, H⟩ := H; (try dsimp only at H)
 replace H := im_ H; obtain ⟨ob, H⟩ := H
 obtain ⟨Pa, hy_⟩ : ∃ y_ : List (S29), y_ = (r ++ [(⟨fa, oa, pa, qa⟩ : S29)]) := ⟨_, rfl⟩
 replace H : (some (N, Pa, true)) = some (r1, r2, r3) := hm_
 have pb := M_ hy_; clear hy_
 simp only [Option.some.injEq, Prod.mk.injEq] at H
 obtain ⟨rfl, rfl, rfl⟩ := H
 refine ⟨?_⟩
 try go_wp2
 obtain ⟨a, d, b, l, c, s⟩ := y6_ a d b l c s
 refine start_ (n := 8) (S := fun w' => c_ w' L 0 (.int .i64 N) ∧ c_ w' L 1 (.slice Z r.length D) ∧ c_ w' q 0 (.slice I t.length J) ∧ c_ w' q 1 (.int .i64 z) ∧ c_ w' q 2 (.int .i64 A) ∧ c_ w' q 3 (.string B)) (ds := [7]) (b_ 0 8) (by kernel_rfl) rfl rfl (f2_ c.1 (e4_ b.1)) (fun u => ?_); refine with_tabW impl_PutChain.tab6 impl_PutChain.bits6 (fun x Oa => ?_)
 generalize rb.drew = ed at a d b l c s u ⊢
 refine p_ x ?_
 iterate 2 refine t0_ x Oa u ?_
 refine o1_ 3 (b_ 4 4) x (fun K hK => ?_)
 refine gs_ Tryz.func58 #[.agg #[.slice I t.length J, .int .i64 z, .int .i64 A, .string B]] ?_
 with_reducible refine (impl_copyAlarm.calls _ _ t z A B fa oa pa qa _ ?_ ?_ zc.1).mono ?_
 exact cp_ ((Kd.C_below sa.1 s.1))
 exact ta.1
 rintro e fd ⟨Sc, rfl, ba, hb⟩
 refine ⟨_, rfl, ?_⟩
 replace a := M_ (Kd.S_elder' (sp_ a.1) (Kd.R_base ba) hb)
 have ha := rw_ ba s
 obtain ⟨d, b, l, c, s⟩ := u5_ hb d b l c s
 (try clear hb ba)
 obtain ⟨Wa, Xa, Ya⟩ := Kd.R_slice ha.1
 (first | subst Ya | (obtain ⟨rfl, rfl⟩ := si_ Ya))
 refine ho_ hK (f2_ c.1 (e4_ b.1)) (fun u => ?_)
 refine o1_ 4 (b_ 5 3) x (fun K hK => ?_)
 refine value_ (w1 := ?_) (v := ?_) (by rfl) rfl ?_ ?_
 rotate_left 2
 ·
  go_simp
  constructor
  ·
   rfl
  rfl
 refine ho_ hK ⟨(blk_cell (blk_alloc c.1 _) 0).trans rfl, (blk_cell (blk_alloc c.1 _) 1).trans rfl, (blk_cell (blk_alloc b.1 _) 0).trans rfl, (blk_cell (blk_alloc b.1 _) 1).trans rfl, (blk_cell (blk_alloc b.1 _) 2).trans rfl, (blk_cell (blk_alloc b.1 _) 3).trans rfl⟩ (fun u => ?_)
 refine o1_ 5 (b_ 6 2) x (fun K hK => ?_)
 refine Kd.S_append_step k29 (w0 := w) w.heap.size (by rfl) (.tmp 29) (.tmp 32) 40 29 (.agg #[(.slice none 0 0), (.int .i64 0), (.int .i64 0), (.string ⟨#[]⟩)]) 56 rfl Tryz.underlying40 info29 rfl (by decide) (by omega) (.slice Z r.length D) r (⟨fa, oa, pa, qa⟩ : S29) [.slice Wa fa.length Xa, .int .i64 oa, .int .i64 pa, .string qa] (fun k_ => k_ ≠ q) (fun k_ => some k_ = (.slice Wa fa.length Xa : Value).ownBlock) rfl rfl ?aP (fun k_ hk_ => ((Kd.R_mono (ok' := fun k_ => ((fun k_ => k_ ≠ q)) k_ ∧ some k_ ≠ (.slice Z r.length D : Value).ownBlock) (Kd.R_types (Kd.R_apart' (ha.1) (Kd.S_typed a.1) (by decide)) b.1 (by decide)) (fun k_ hk => ⟨hk.2, hk.1.2⟩))).1 k_ hk_.symm) ?aF ?aO ?aB ?aS ?aL ?_
 (case aP => exact k29_mkM _ _ _ (⟨fa, oa, pa, qa⟩ : S29) (Kd.R_mono (Kd.R_tight rfl (Kd.R_mono (ok' := fun k_ => ((fun k_ => k_ ≠ q)) k_ ∧ some k_ ≠ (.slice Z r.length D : Value).ownBlock) (Kd.R_types (Kd.R_apart' (ha.1) (Kd.S_typed a.1) (by decide)) b.1 (by decide)) (fun k_ hk => ⟨hk.2, hk.1.2⟩))) (fun _ h_ => h_)))
 (case aB => exact (hs_ s.1))
 (case aF => exact (fun k_ hk => Kd.freshB (g := q) (o := .cells #[.slice I t.length J, .int .i64 z, .int .i64 A, .string B] 29 (0, 0)) (pb_ b.1) k_ hk))
 (case aO => exact (Kd.S_mono (sp_ a.1) (fun k_ hk => ⟨hk.1.2, fun e_ => hk.2 e_⟩)))
 (case aS => exact (below_size (hs_ s.1)))
 (case aL => have := ob.1; omega)
 intro Tc Ac ho hb hg hat
 rw [← pb.1] at ho
 replace d := bg_ d hg a
 replace b := M_ (blk_grown (bq_ b.1) hg (Kd.S_away a.1 (fun _ hk => hk.1.2)))
 replace l := bg_ l hg a
 replace c := bg_ c hg a
 replace s := M_ (hb)
 have Qa := M_ (ho)
 clear a ha
 clear ho hb hg hat
 obtain ⟨Za, ab, bb⟩ := Kd.S_slice Qa.1
 (first | subst bb | (obtain ⟨rfl, rfl⟩ := si_ bb))
 refine ho_ hK (f2_ c.1 (e4_ b.1)) (fun u => ?_)
 refine p_ x ?_
 refine l1_ 7 (b_ 8 0) x (fun K hK => ?_)
 have Uc : Ac.cell? ⟨L, 1, none⟩ = some (.slice Z r.length D) := bx_ c.1 1
 have Bc := blk_frozen c.1 1
 have Ab := ya.1
 have Bb := za.1
 have Cb := Aa.1
 have Db := W.1
 have Eb := X.1
 have Fb := Y.1
 refine skip_ (w1 := ?_) (by rfl) rfl ?_ ?_
 rotate_left
 ·
  go_simp
  rfl
 refine hK.out _ _ ?_
 clear hK K
 refine done_ (done_of x.1 (by kernel_rfl)) ?_
 obtain ⟨Cc, Dc, Ec, Fc⟩ := bc2_ c.1
 obtain ⟨Gc, Hc, Ic, Jc⟩ := bc2_ l.1
 try go_wp2
 refine bodyPost_ret (results_ct rfl _ _ ga 80 #[.int .i64 N, .slice Za Pa.length ab] (0, 0) _ rfl (bp_ l.1) Tryz.underlying80 rfl (by kernel_rfl)) rfl ?_
 exact ⟨_, rr_, Kd.S_mono (sf_ ga (Kd.S_far (p := ⟨L, 1, none⟩) (Kd.S_types (Kd.S_types Qa.1 c.1 (by decide)) l.1 (by decide)) (fun _ hk => hk.1.2) (.slice Za Pa.length ab)) (fun _ hk => hk.2)) (fun _ hk => trivial), hs_ s.1⟩
mutual
def impl_PutIn.l0 : Nat → Int → Int → List (S99) → Int → Int → ByteArray → Int → Int → List (S80) → Option (Int × Int × (List (S80)) × Bool)
 | 0, _, _, _, _, _, _, _, _, _ => none
 | k + 1, i, h, b, c, d, e, f, g, a => if h < (a.length : Int) then (if 0 ≤ h then (impl_PutIn.j1 k i h (decide (((rd_T80 a h).f0) ≤ i)) b c d e f g a) else (none)) else (impl_PutIn.j1 k i h false b c d e f g a)
def impl_PutIn.j1 : Nat → Int → Int → Bool → List (S99) → Int → Int → ByteArray → Int → Int → List (S80) → Option (Int × Int × (List (S80)) × Bool)
 | 0, _, _, _, _, _, _, _, _, _, _ => none
 | k + 1, q, j, p, c, d, e, g, h, i, a => if p = true then (impl_PutIn.l0 k q (wrap64 (j + 1)) c d e g h i a) else ((impl_copyAlarm.f c d e g).bind fun b => (if 0 ≤ j then (if j ≤ (a.length : Int) then ((some (a.drop (j : Int).toNat : List (S80))).bind fun l => ((some (a.take (j : Int).toNat : List (S80))).bind fun m => (if ([] : List (S80)).length + m.length < 4398046511104 then ((some (([] : List (S80)) ++ m : List (S80))).bind fun n => (if n.length < 4398046511104 then ((some (n ++ [(⟨q, (([(⟨b.1, b.2.1, b.2.2.1, b.2.2.2⟩ : S29)] : List (S29)))⟩ : S80)] : List (S80))).bind fun o => (if o.length + l.length < 4398046511104 then (some (h, i, (o ++ l), true)) else (none))) else (none))) else (none)))) else (none)) else (none)))
end
def impl_PutIn.f (k : Nat) (g : Int) (h : Int) (c : List (S80)) (e : List (S99)) (i : Int) (j : Int) (l : ByteArray) : Option (Int × Int × (List (S80)) × Bool) := (impl_copyPart.f k g h c).bind fun a => ((impl_Finger.f k e).bind fun m => ((impl_chainOf.f k g h c m).bind fun b => (if b ≥ 0 then (if 0 ≤ b then (if b < (c.length : Int) then ((impl_PutChain.f k ((rd_T80 c b).f0) ((rd_T80 c b).f1) e i j l).bind fun d => (if b < (a.2.2.length : Int) then (some (a.1, wrap64 (a.2.1 + 1), (a.2.2.set (b : Int).toNat (⟨d.1, d.2.1⟩ : S80)), d.2.2)) else (none))) else (none)) else (none)) else (impl_PutIn.l0 k m 0 e i j l a.1 (wrap64 (a.2.1 + 1)) a.2.2))))
def impl_PutIn.T6 : Bool × List (List Nat × List Nat) := (true, [([], []), ([0], [0]), ([], []), ([1, 2], [1, 2]), ([3], [3]), ([], []), ([4, 5], [4, 5]), ([6], [6]), ([7], [7]), ([7], [7]), ([], []), ([10, 8, 6, 0, 1, 2, 3, 4, 5, 6, 7, 8, 10], [8, 10]), ([9, 11, 0, 1, 2, 3, 4, 5, 6, 7, 8, 9, 10, 11], [9])])
def impl_PutIn.B6 : List Nat := [0, 1, 0, 7, 15, 0, 63, 127, 255, 255, 0, 1535, 4095]
theorem impl_PutIn.tab6 : rtab .any (opsOf Tryz.f8 6) = impl_PutIn.T6 := by kernel_rfl
theorem impl_PutIn.bits6 : waitsOk impl_PutIn.T6.2 impl_PutIn.B6 = true := by kernel_rfl
def impl_PutIn.T13 : Bool × List (List Nat × List Nat) := (true, [([], []), ([0], [0]), ([], []), ([1, 2], [1, 2]), ([3], [3]), ([], []), ([5], [5]), ([4, 6, 4], [4, 6]), ([], []), ([8], [8]), ([], []), ([9, 10], [9, 10]), ([7, 11, 7], [7, 11]), ([0, 1, 2, 3, 4, 5, 6, 7, 8, 9, 10, 11, 12], []), ([13, 12, 12, 0, 1, 2, 3, 4, 5, 6, 7, 8, 9, 10, 11, 12], [12, 13])])
def impl_PutIn.B13 : List Nat := [0, 1, 0, 7, 15, 0, 32, 127, 0, 256, 0, 1792, 4095, 8191, 16383]
theorem impl_PutIn.tab13 : rtab .any (opsOf Tryz.f8 13) = impl_PutIn.T13 := by kernel_rfl
theorem impl_PutIn.bits13 : waitsOk impl_PutIn.T13.2 impl_PutIn.B13 = true := by kernel_rfl
theorem impl_PutIn.calls (k : Nat) (ha : Int) (ia : Int) (Xa : Option Addr) (za : Nat) (F : List (S80)) (ca : Option Addr) (da : Nat) (M : List (S99)) (T : Int) (U : Int) (V : ByteArray) (r1 : Int) (r2 : Int) (r3 : List (S80)) (r4 : Bool) (w : World) (yc : Kd.C k80 w Xa F.length F) (zc : F.length ≤ za) (Ac : Kd.C k99 w ca M.length M) (Bc : M.length ≤ da) (h : impl_PutIn.f k ha ia F M T U V = some (r1, r2, r3, r4)) :
  Calls Tryz.prog 8 #[.agg #[.int .i64 ha, .int .i64 ia, .slice Xa F.length za], .agg #[.slice ca M.length da, .int .i64 T, .int .i64 U, .string V]] w fun e w' => ∃ v2_ : Value, e = .returned (.tuple #[.agg #[.int .i64 r1, .int .i64 r2, v2_], .bool r4]) ∧ Kd.S k80 80 w' w.heap.size (fun _ => True) v2_ r3 ∧ Below w.heap.size w w' := by
 have hu26 := Tryz.underlying26
 have hu29 := Tryz.underlying29
 have hu80 := Tryz.underlying80
 have ob := M_ yc
 have Gb := M_ zc
 clear yc zc
 have pb := M_ Ac
 have qb := M_ Bc
 clear Ac Bc
 have D := M_ (Below.refl w.heap.size w)
 unfold impl_PutIn.f at h
 have H := h; clear h
 replace H := bi_ H; obtain ⟨⟨aa, ba, s⟩, A3, H⟩ := H; (try dsimp only at H)
 replace H := bi_ H; obtain ⟨L, A4, H⟩ := H
 replace H := bi_ H; obtain ⟨E, A5, H⟩ := H
 replace H := ie_ H; rcases H with ⟨c6, H⟩ | ⟨c6, H⟩
 ·
  have he : decide (0 ≤ E) = true := decide_eq_true c6
  clear c6
  replace H := i2_ H; obtain ⟨mi, ni, H⟩ := H
  replace H := bi_ H; obtain ⟨⟨Ya, Za, Eb⟩, A9, H⟩ := H; (try dsimp only at H)
  replace H := id_ H; obtain ⟨rf, H⟩ := H
  obtain ⟨pd, hy_⟩ : ∃ y_ : List (S80), y_ = (s.set (E : Int).toNat (⟨Ya, Za⟩ : S80)) := ⟨_, rfl⟩
  replace H : (some (aa, wrap64 (ba + 1), pd, Eb)) = some (r1, r2, r3, r4) := hm_
  have Ad := M_ hy_; clear hy_
  simp only [Option.some.injEq, Prod.mk.injEq] at H
  obtain ⟨rfl, rfl, rfl, rfl⟩ := H
  go_enter Tryz.func8, Tryz.ntmps8
  try go_wp2_with (first | ((with_reducible refine gd_ 2 rfl ?_); refine bV_ 2 #[.int .i64 ha, .int .i64 ia, .slice Xa F.length za] 26 ?_; intro R hg zi b hb; have Bd := gq_ hg D; replace D := st_ D hb; clear hb hg) | ((with_reducible refine gd_ 3 rfl ?_); refine bV_ 3 #[.slice ca M.length da, .int .i64 T, .int .i64 U, .string V] 29 ?_; intro m hg Ai a hb; have Cd := gq_ hg D; replace D := st_ D hb; obtain ⟨fb, rb, b⟩ := nb_ b hg hb; clear hb hg) | ((with_reducible refine gd_ 4 rfl ?_); refine bV_ 4 #[.int .i64 0, .int .i64 0, .slice none 0 0] 26 ?_; intro ra hg Bi l hb; have Dd := gq_ hg D; replace D := st_ D hb; obtain ⟨gb, sb, b⟩ := nb_ b hg hb; obtain ⟨Oa, ec, a⟩ := nb_ a hg hb; clear hb hg; have sf := n2_ fb; have tf := n2_ gb; obtain ⟨uf, vf, wf, xf, yf, zf⟩ := bc3_ b.1) | ((with_reducible refine gate_callee (f := 54) rfl ?_); refine gl_ (some 14) Tryz.func54 #[.agg #[.int .i64 ha, .int .i64 ia, .slice Xa F.length za]] ?_; (with_reducible refine (impl_copyPart.calls k ha ia _ _ F aa ba s _ ?_ ?_ A3.1).mono ?_); exact cp_ ((Kd.C_below ob.1 D.1)); exact Gb.1; rintro e Ci ⟨ie, rfl, Pa, hb⟩; refine ⟨_, rfl, ?_⟩; obtain ⟨W, fc⟩ := Kd.S_name Pa; have r := M_ (Kd.S_lower (Kd.S_newB (Kd.S_gez fc Pa) (pb_ a.1)) (below_size (hs_ D.1))); obtain ⟨b, a, l, D⟩ := u4_ hb b a l D; (try clear hb Pa)) | ((with_reducible refine gd_ 6 rfl ?_); refine bV_ 6 #[.int .i64 0, .int .i64 0, .slice none 0 0] 26 ?_; intro y hg Di c hb; replace r := M_ (Kd.S_below (Kd.S_ltz hg (sp_ r.1)) hb); have Ed := gq_ hg D; replace D := st_ D hb; obtain ⟨tb, ja, b⟩ := nb_ b hg hb; obtain ⟨ib, ta, a⟩ := nb_ a hg hb; obtain ⟨ub, ka, l⟩ := nb_ l hg hb; clear hb hg; have Af := n2_ ja; have Bf := n2_ ta; have Cf := n2_ ka; obtain ⟨Df, Ef, Ff, Gf, Hf, If⟩ := bc3_ c.1; obtain ⟨Mb, lb, je⟩ := Kd.S_slice r.1; subst je; have Jf := n2_ Oa; obtain ⟨Kf, Lf, Mf, Nf, Of, Pf, Qf, Rf⟩ := bc4_ a.1) | ((with_reducible refine gate_callee (f := 55) rfl ?_); refine gl_ (some 21) Tryz.func55 #[.slice ca M.length da] ?_; (with_reducible refine (impl_Finger.calls k _ _ M L _ ?_ ?_ A4.1).mono ?_); exact Kd.C_below pb.1 (hs_ D.1); exact qb.1; rintro e Ei ⟨rfl, hb⟩; refine ⟨_, rfl, ?_⟩; replace r := M_ (Kd.S_below (sy_ r.1 c.1) hb); obtain ⟨b, a, l⟩ := u3_ hb b a l; replace c := by_ c #[.int .i64 aa, .int .i64 (wrap64 (ba + 1)), .slice Mb s.length lb] hb; replace D := st_ D hb; (try clear hb); obtain ⟨Sf, Tf, Uf, Vf, Wf, Xf⟩ := bc3_ b.1) | ((with_reducible refine gate_callee (f := 56) rfl ?_); refine gl_ (some 24) Tryz.func56 #[.agg #[.int .i64 ha, .int .i64 ia, .slice Xa F.length za], .int .i64 L] ?_; (with_reducible refine (impl_chainOf.calls k ha ia _ _ F L E _ ?_ ?_ A5.1).mono ?_); exact cp_ ((Kd.C_below ob.1 D.1)); exact Gb.1; rintro e Yf ⟨rfl, hb⟩; refine ⟨_, rfl, ?_⟩; obtain ⟨r, b, a, l, c, D⟩ := u6_ hb r b a l c D; (try clear hb)))
  obtain ⟨r, b, a, l, c, D⟩ := y6_ r b a l c D
  obtain ⟨Cc, Dc⟩ : 0 ≤ (E : Int) ∧ E < (F.length : Int) := pq_
  obtain ⟨Da, jb, kb, ke, La, ab, Nb, Ob⟩ := at_T80 ob.1 E Cc Dc
  have X := ab
  have Y := La
  cases ke
  replace La := c2_ D La ab; clear ab; obtain ⟨La, ab⟩ := La
  have vb := M_ Ob
  have Pb := M_ Nb
  clear Ob Nb
  replace Cc := eq_true Cc; replace Dc := eq_true Dc
  refine start_ (n := 13) (S := fun w' => c_ w' R 0 (.int .i64 ha) ∧ c_ w' R 1 (.int .i64 ia) ∧ c_ w' R 2 (.slice (some Da) F.length za) ∧ c_ w' m 0 (.slice ca M.length da) ∧ c_ w' m 1 (.int .i64 T) ∧ c_ w' m 2 (.int .i64 U) ∧ c_ w' m 3 (.string V) ∧ w'.cell? (Da.add ((E).toNat * 2)) = some (.int .i64 ((rd_T80 F E).f0)) ∧ d_ w' (Da.add ((E).toNat * 2)) 1 (.slice jb ((rd_T80 F E).f1).length kb)) (ds := []) (b_ 0 13) (by kernel_rfl) rfl rfl ⟨bx_ b.1 0, bx_ b.1 1, bx_ b.1 2, bx_ a.1 0, bx_ a.1 1, bx_ a.1 2, bx_ a.1 3, ((D.1.cell (World.block_lt_of_cell? w _ Y)).trans Y), ((D.1.cell (World.block_lt_of_cell? w _ X)).trans X)⟩ (fun A => ?_); refine with_tabW impl_PutIn.tab6 impl_PutIn.bits6 (fun ga sc => ?_)
  generalize Yf.drew = Fi at r b a l c D vb La ab A ⊢
  refine p_ ga ?_
  refine qw_ 2 (m_ 13 5) ga ?_
  refine qt_ 1 (b_ 3 10) ga sc A ?_
  refine p_ ga ?_
  iterate 2 refine t0_ ga sc A ?_
  refine join_ (σ := Value × Nat × Nat) 2 (b_ 11 2) (fun s_ => [(34, .tuple #[.agg #[.int .i64 Ya, s_.1], .bool Eb]), (9, .pointer (some ⟨s_.2.2, 0, none⟩)), (27, .tuple #[.agg #[.int .i64 Ya, s_.1], .bool Eb]), (35, .agg #[.int .i64 Ya, s_.1]), (36, .bool Eb)]) (fun s_ w' => (c_ w' R 0 (.int .i64 ha) ∧ c_ w' R 1 (.int .i64 ia) ∧ c_ w' R 2 (.slice (some Da) F.length za) ∧ c_ w' m 0 (.slice ca M.length da) ∧ c_ w' m 1 (.int .i64 T) ∧ c_ w' m 2 (.int .i64 U) ∧ c_ w' m 3 (.string V) ∧ w'.cell? (Da.add ((E).toNat * 2)) = some (.int .i64 ((rd_T80 F E).f0)) ∧ d_ w' (Da.add ((E).toNat * 2)) 1 (.slice jb ((rd_T80 F E).f1).length kb)) ∧ (Kd.S k80 80 w' w.heap.size (fun k_ => k_ ≠ m ∧ k_ ≠ s_.2.2 ∧ W ≤ k_ ∧ k_ < y ∧ k_ < s_.2.1) (.slice Mb s.length lb) s) ∧ (Kd.S k29 29 w' w.heap.size (fun k_ => k_ ≠ m ∧ s_.2.1 ≤ k_) s_.1 Za) ∧ (w'.heap[R]? = some (.cells #[.int .i64 ha, .int .i64 ia, .slice (some Da) F.length za] 26 (0, 0))) ∧ (w'.heap[m]? = some (.cells #[.slice ca M.length da, .int .i64 T, .int .i64 U, .string V] 29 (0, 0))) ∧ (w'.heap[ra]? = some (.cells #[.int .i64 0, .int .i64 0, .slice none 0 0] 26 (0, 0))) ∧ (w'.heap[y]? = some (.cells #[.int .i64 aa, .int .i64 (wrap64 (ba + 1)), .slice Mb s.length lb] 26 (0, 0))) ∧ (w'.heap[s_.2.2]? = some (.cells #[.int .i64 0, .slice none 0 0] 80 (0, 0))) ∧ (w.heap.size ≤ s_.2.2) ∧ (w.heap.size ≤ s_.2.2) ∧ (R ≠ s_.2.2) ∧ (s_.2.2 ≠ R) ∧ (m ≠ s_.2.2) ∧ (s_.2.2 ≠ m) ∧ (ra ≠ s_.2.2) ∧ (s_.2.2 ≠ ra) ∧ (y ≠ s_.2.2) ∧ (s_.2.2 ≠ y) ∧ (Below w.heap.size w w')) ?_ ?_
  rotate_left
  ·
   intro wb
   refine two_ (i := 6) (j := 10) (Ni := some 34) (Nj := some 9) (b_ 7 6) (m_ 13 1087) rfl rfl rfl rfl (two_of ga.1 (by kernel_rfl)) (by decide) (by decide) (fun K hK => ?_) (fun K hK => ?_)
   ·
    skip
    refine gs_ Tryz.func57 #[.agg #[.int .i64 ((rd_T80 F E).f0), .slice jb ((rd_T80 F E).f1).length kb], .agg #[.slice ca M.length da, .int .i64 T, .int .i64 U, .string V]] ?_
    with_reducible refine (impl_PutChain.calls k ((rd_T80 F E).f0) _ _ ((rd_T80 F E).f1) _ _ M T U V Ya Za Eb _ ?_ ?_ ?_ ?_ A9.1).mono ?_
    exact cp_ ((Kd.C_below vb.1 D.1))
    exact Pb.1
    exact cp_ ((Kd.C_below pb.1 D.1))
    exact qb.1
    rintro e Zf ⟨Qb, rfl, Pa, hb⟩
    refine ⟨_, rfl, ?_⟩
    obtain ⟨Ja, xb⟩ := Kd.S_name Pa
    replace r := su_ xb (sp_ r.1) hb
    have Aa := M_ (Kd.S_lower (Kd.S_newB (Kd.S_gez xb Pa) (pb_ a.1)) (below_size (hs_ D.1)))
    obtain ⟨b, a, l, c, D⟩ := u5_ hb b a l c D
    (try clear hb Pa)
    refine ho_ hK ⟨bx_ b.1 0, bx_ b.1 1, bx_ b.1 2, bx_ a.1 0, bx_ a.1 1, bx_ a.1 2, bx_ a.1 3, ((D.1.cell (World.block_lt_of_cell? w _ Y)).trans Y), ((D.1.cell (World.block_lt_of_cell? w _ X)).trans X)⟩ (fun A => ?_)
    iterate 3 refine p_ ga ?_
    refine o1_ 10 (b_ 11 2) ga (fun K hK => ?_)
    refine bs1_ 9 #[.int .i64 0, .slice none 0 0] 80 ?_
    intro sa hg ag bb hb
    replace r := se_ r hg hb
    replace Aa := sb_ Aa hb
    have ea := M_ (bb)
    have cb := gq_ hg D
    have Hb := gq_ hg D
    replace D := st_ D hb
    have ua := nk_ b hg
    have la := Ne_.mk (ng_ b.1 hg)
    replace b := bk2_ b hb
    have va := nk_ a hg
    have ma := Ne_.mk (ng_ a.1 hg)
    replace a := bk2_ a hb
    have wa := nk_ l hg
    have na := Ne_.mk (ng_ l.1 hg)
    replace l := bk2_ l hb
    have oa := nk_ c hg
    have xa := Ne_.mk (ng_ c.1 hg)
    replace c := bk2_ c hb
    clear hb bb hg
    refine ho_ hK ⟨bx_ b.1 0, bx_ b.1 1, bx_ b.1 2, bx_ a.1 0, bx_ a.1 1, bx_ a.1 2, bx_ a.1 3, ((D.1.cell (World.block_lt_of_cell? w _ Y)).trans Y), ((D.1.cell (World.block_lt_of_cell? w _ X)).trans X)⟩ (fun A => ?_)
    exact norm_ (by simp only [putAll, fr_]) (wb (Qb, Ja, sa) _ ⟨A, (Kd.S_mono (sp_ r.1) (fun _ hk => ⟨hk.1.1.1.2, ⟨hk.2, ⟨hk.1.1.1.1.2, ⟨hk.1.1.2, hk.1.2⟩⟩⟩⟩)), (Kd.S_mono (sp_ Aa.1) (fun _ hk => ⟨hk.2, hk.1.2⟩)), (pb_ b.1), (pb_ a.1), (pb_ l.1), (pb_ c.1), (pb_ ea.1), cb.1, Hb.1, ua.1, la.1, va.1, ma.1, wa.1, na.1, oa.1, xa.1, (hs_ D.1)⟩)
   skip
   refine bs1_ 9 #[.int .i64 0, .slice none 0 0] 80 ?_
   intro sa hg Zf bb hb
   replace r := se_ r hg hb
   have ea := M_ (bb)
   have cb := gq_ hg D
   have Hb := gq_ hg D
   replace D := st_ D hb
   have ua := nk_ b hg
   have la := Ne_.mk (ng_ b.1 hg)
   replace b := bk2_ b hb
   have va := nk_ a hg
   have ma := Ne_.mk (ng_ a.1 hg)
   replace a := bk2_ a hb
   have wa := nk_ l hg
   have na := Ne_.mk (ng_ l.1 hg)
   replace l := bk2_ l hb
   have oa := nk_ c hg
   have xa := Ne_.mk (ng_ c.1 hg)
   replace c := bk2_ c hb
   clear hb bb hg
   refine ho_ hK ⟨bx_ b.1 0, bx_ b.1 1, bx_ b.1 2, bx_ a.1 0, bx_ a.1 1, bx_ a.1 2, bx_ a.1 3, ((D.1.cell (World.block_lt_of_cell? w _ Y)).trans Y), ((D.1.cell (World.block_lt_of_cell? w _ X)).trans X)⟩ (fun A => ?_)
   refine o1_ 6 (m_ 13 1151) ga (fun K hK => ?_)
   refine gs_ Tryz.func57 #[.agg #[.int .i64 ((rd_T80 F E).f0), .slice jb ((rd_T80 F E).f1).length kb], .agg #[.slice ca M.length da, .int .i64 T, .int .i64 U, .string V]] ?_
   with_reducible refine (impl_PutChain.calls k ((rd_T80 F E).f0) _ _ ((rd_T80 F E).f1) _ _ M T U V Ya Za Eb _ ?_ ?_ ?_ ?_ A9.1).mono ?_
   exact cp_ ((Kd.C_below vb.1 D.1))
   exact Pb.1
   exact cp_ ((Kd.C_below pb.1 D.1))
   exact qb.1
   rintro e ag ⟨Qb, rfl, Pa, hb⟩
   refine ⟨_, rfl, ?_⟩
   obtain ⟨Ja, xb⟩ := Kd.S_name Pa
   replace r := su_ xb (sp_ r.1) hb
   have Aa := M_ (Kd.S_lower (Kd.S_newB (Kd.S_gez xb Pa) (pb_ a.1)) (below_size (hs_ D.1)))
   obtain ⟨b, a, l, c, ea, D⟩ := u6_ hb b a l c ea D
   (try clear hb Pa)
   refine ho_ hK ⟨bx_ b.1 0, bx_ b.1 1, bx_ b.1 2, bx_ a.1 0, bx_ a.1 1, bx_ a.1 2, bx_ a.1 3, ((D.1.cell (World.block_lt_of_cell? w _ Y)).trans Y), ((D.1.cell (World.block_lt_of_cell? w _ X)).trans X)⟩ (fun A => ?_)
   refine qw_ 7 (m_ 13 1279) ga ?_
   refine qw_ 8 (m_ 13 1535) ga ?_
   refine qw_ 9 (b_ 11 2) ga ?_
   exact norm_ (by simp only [putAll, fr_]) (wb (Qb, Ja, sa) _ ⟨A, (Kd.S_mono (sp_ r.1) (fun _ hk => ⟨hk.1.1.1.2, ⟨hk.1.2, ⟨hk.1.1.1.1.2, ⟨hk.1.1.2, hk.2⟩⟩⟩⟩)), (Kd.S_mono (sp_ Aa.1) (fun _ hk => ⟨hk.2, hk.1.2⟩)), (pb_ b.1), (pb_ a.1), (pb_ l.1), (pb_ c.1), (pb_ ea.1), cb.1, Hb.1, ua.1, la.1, va.1, ma.1, wa.1, na.1, oa.1, xa.1, (hs_ D.1)⟩)
  rintro ⟨Qb, Ja, sa⟩ Ma ⟨Fd, Ec, Fc, Gc, Hc, Ic, Jc, Kc, Lc, Mc, Nc, Rb, Sb, Tb, Ub, Vb, Wb, Xb, Yb⟩
  replace r : Aside0 (Kd.S k80 80 Ma w.heap.size (fun k_ => k_ ≠ m ∧ k_ ≠ sa ∧ W ≤ k_ ∧ k_ < y ∧ k_ < Ja) (.slice Mb s.length lb) s) := ⟨Ec⟩
  have Aa : Aside0 (Kd.S k29 29 Ma w.heap.size (fun k_ => k_ ≠ m ∧ Ja ≤ k_) Qb Za) := ⟨Fc⟩
  replace b : Aside0 (Ma.heap[R]? = some (.cells #[.int .i64 ha, .int .i64 ia, .slice (some Da) F.length za] 26 (0, 0))) := ⟨Gc⟩
  replace a : Aside0 (Ma.heap[m]? = some (.cells #[.slice ca M.length da, .int .i64 T, .int .i64 U, .string V] 29 (0, 0))) := ⟨Hc⟩
  replace l : Aside0 (Ma.heap[ra]? = some (.cells #[.int .i64 0, .int .i64 0, .slice none 0 0] 26 (0, 0))) := ⟨Ic⟩
  replace c : Aside0 (Ma.heap[y]? = some (.cells #[.int .i64 aa, .int .i64 (wrap64 (ba + 1)), .slice Mb s.length lb] 26 (0, 0))) := ⟨Jc⟩
  have ea : Aside0 (Ma.heap[sa]? = some (.cells #[.int .i64 0, .slice none 0 0] 80 (0, 0))) := ⟨Kc⟩
  have cb := Ge_.mk Lc
  have Hb := Ge_.mk Mc
  have ua := Ne_.mk Nc
  have la := Ne_.mk Rb
  have va := Ne_.mk Sb
  have ma := Ne_.mk Tb
  have wa := Ne_.mk Ub
  have na := Ne_.mk Vb
  have oa := Ne_.mk Wb
  have xa := Ne_.mk Xb
  replace D : Aside0 (Below w.heap.size w Ma) := ⟨Yb⟩
  clear Ec Fc Gc Hc Ic Jc Kc Lc Mc Nc Rb Sb Tb Ub Vb Wb Xb Yb
  have A : c_ Ma R 0 (.int .i64 ha) ∧ c_ Ma R 1 (.int .i64 ia) ∧ c_ Ma R 2 (.slice (some Da) F.length za) ∧ c_ Ma m 0 (.slice ca M.length da) ∧ c_ Ma m 1 (.int .i64 T) ∧ c_ Ma m 2 (.int .i64 U) ∧ c_ Ma m 3 (.string V) ∧ Ma.cell? (Da.add ((E).toNat * 2)) = some (.int .i64 ((rd_T80 F E).f0)) ∧ d_ Ma (Da.add ((E).toNat * 2)) 1 (.slice jb ((rd_T80 F E).f1).length kb) := Fd
  obtain ⟨nc, oc, qd⟩ := Kd.S_slice Aa.1
  (first | subst qd | (obtain ⟨rfl, rfl⟩ := si_ qd))
  refine nm_ ?_
  refine o1_ 11 (b_ 12 1) ga (fun K hK => ?_)
  have pi : Ma.cell? ⟨sa, 0, none⟩ = some (.int .i64 0) := bx_ ea.1 0
  have bg := blk_frozen ea.1 0
  have le := ua.1
  have me := va.1
  have ne := wa.1
  have oe := oa.1
  have pe := la.1
  have qe := ma.1
  have re := na.1
  have se := xa.1
  have qi : Ma.cell? ⟨sa, 1, none⟩ = some (.slice none 0 0) := bx_ ea.1 1
  have cg := blk_frozen ea.1 1
  have te := ua.1
  have ue := va.1
  have ve := wa.1
  have we := oa.1
  have xe := la.1
  have ye := ma.1
  have ze := na.1
  have Ae := xa.1
  refine skip_ (w1 := ?_) (by rfl) rfl ?_ ?_
  rotate_left
  ·
   go_simp
   rfl
  refine hK.out _ _ ⟨(cg_ (A.1)), (cg_ (A.2.1)), (cg_ (A.2.2.1)), (cg_ (A.2.2.2.1)), (cg_ (A.2.2.2.2.1)), (cg_ (A.2.2.2.2.2.1)), (cg_ (A.2.2.2.2.2.2.1)), (ce_ Y cb.1 ((ce_ Y cb.1 (A.2.2.2.2.2.2.2.1)))), (ce_ X cb.1 ((ce_ X cb.1 (A.2.2.2.2.2.2.2.2))))⟩ (fun A => ?_)
  clear hK K
  refine p_ ga ?_
  refine done_ (done_of ga.1 (by kernel_rfl)) ?_
  generalize hw_ : ((Ma.setCell ⟨sa, 0, none⟩ (.int .i64 Ya)).setCell ⟨sa, 1, none⟩ (.slice nc Za.length oc)) = gc
  have Oc := ws_ hw_ (Kd.S_mono (ok' := (fun k_ => k_ ≠ m ∧ k_ ≠ sa ∧ W ≤ k_ ∧ k_ < y ∧ k_ < Ja)) (sf_ sa r.1 (fun _ hk => hk.2.1)) (fun _ hk => ⟨hk.1, ⟨hk.2.1, ⟨hk.2.2.1, ⟨hk.2.2.2.1, hk.2.2.2.2⟩⟩⟩⟩))
  have Pc := ws_ hw_ (Kd.S_mono (ok' := (fun k_ => k_ ≠ m ∧ Ja ≤ k_)) (sy_ Aa.1 ea.1) (fun _ hk => ⟨hk.1, hk.2⟩))
  replace b := wq_ hw_ b
  replace a := wq_ hw_ a
  replace l := wq_ hw_ l
  replace c := wq_ hw_ c
  replace ea := wp_ hw_ #[.int .i64 Ya, .slice nc Za.length oc] ea
  replace D := wb_ hw_ D
  clear hw_
  (try clear r Aa)
  have r := Oc
  have Aa := Pc
  clear Oc Pc
  have dg := n2_ oa
  obtain ⟨eg, fg, gg, ig, jg, kg⟩ := bc3_ c.1
  have lg := n2_ la
  have mg := n2_ ma
  have ng := n2_ na
  obtain ⟨og, pg, qg, rg⟩ := bc2_ ea.1
  obtain ⟨Gd, Hd⟩ : 0 ≤ (E : Int) ∧ (E : Int) < ((s.length : Int) : Int) := pq_
  obtain ⟨go11, ri, rd, sd, gl11, cl11, HG11⟩ := Kd.S_form r.1 (by omega)
  (first | cases rd | (injection rd with ea_ en_ ec_; (first | subst ea_ | (injection ea_ with ea_; subst ea_)); subst ec_; clear en_))
  have GB11 := M_ sd
  have GG11 := M_ HG11
  clear sd gl11 HG11
  obtain ⟨_, si, hcl11, hM11, hc, hfr11, _, _⟩ := Kd.S_elem r.1 z80 (E : Int) Gd Hd
  obtain ⟨ed, rfl, Pe⟩ := k80_openM hM11
  have Qe : gc.cell? ⟨go11, (E : Int).toNat * 2, none⟩ = some (.int .i64 ((rd_T80 s E).f0)) := hc 0 _ rfl
  have Re : gc.cell? ⟨go11, (E : Int).toNat * 2 + 1, none⟩ = some (ed) := hc 1 _ rfl
  have hf11_0 : gc.frozen? ⟨go11, (E : Int).toNat * 2, none⟩ = false := hfr11 0
  have hf11_1 : gc.frozen? ⟨go11, (E : Int).toNat * 2 + 1, none⟩ = false := hfr11 1
  clear hcl11 hc hfr11 hM11
  replace Gd := eq_true Gd; replace Hd := eq_true Hd
  obtain ⟨Id, fd, nb⟩ := Kd.S_fp (Kd.S_types (Kd.S_apart' (Aa.1) (Kd.S_typed r.1) (by decide)) ea.1 (by decide))
  have HX44 := M_ (show Kd.S k80 80 gc w.heap.size (fun k_ => ((fun k_ => k_ ≠ m ∧ k_ ≠ sa)) k_ ∧ ¬ ((fun k_ => Id k_)) k_) (.slice (some ⟨go11, 0, none⟩) s.length lb) s from (Kd.S_mono (sp_ r.1) (fun k_ hk => ⟨⟨hk.1, hk.2.1⟩, fun e_ => (fun ez_ => Nat.lt_irrefl _ (Nat.lt_of_lt_of_le hk.2.2.2.2 (nb _ ez_).1.1.1.2)) e_⟩)))
  obtain ⟨oki44, ti, hcl44, hM44, ic, hfr44, hoki44, hH44⟩ := Kd.S_elem HX44.out z80 (E : Int) (of_decide_eq_true (by with_reducible assumption)) (by have h_ : (E : Int) < ((s.length : Int) : Int) := of_decide_eq_true (by with_reducible assumption); first | exact h_ | (have e_ := (Kd.S_reads' r.1).1; omega) | simpa using h_)
  obtain ⟨Se, rfl, Te⟩ := k80_openM hM44
  have HP44 := Kd.S_seg hH44 (of_decide_eq_true (by with_reducible assumption)) (by have h_ : (E : Int) < ((s.length : Int) : Int) := of_decide_eq_true (by with_reducible assumption); first | exact h_ | (have e_ := (Kd.S_reads' r.1).1; omega) | simpa using h_) (seg := [.int .i64 Ya, .slice nc Za.length oc]) (j := 0) (show 2 ≤ 2 from by decide) (x' := (⟨Ya, Za⟩ : S80)) (k80_mkM _ _ _ (⟨Ya, Za⟩ : S80) (Kd.S_mono fd (fun _ h_ => Or.inr (h_)))) (fun _ hk => hk) (fun k_ hk_ => ⟨⟨(nb k_ hk_).1.1.1.1, (nb k_ hk_).1.2⟩, fun e_ => ((nb k_ hk_).1.1.2) (by rw [e_]; rfl)⟩)
  have gd := ic 0 _ rfl
  (try simp only [show (k80).sz = 2 from rfl, Nat.mul_one, Nat.add_zero] at gd)
  have hf44_0 := hfr44 0
  (try simp only [show (k80).sz = 2 from rfl, Nat.mul_one, Nat.add_zero] at hf44_0)
  have jd := ic 1 _ rfl
  (try simp only [show (k80).sz = 2 from rfl, Nat.mul_one, Nat.add_zero] at jd)
  have hf44_1 := hfr44 1
  (try simp only [show (k80).sz = 2 from rfl, Nat.mul_one, Nat.add_zero] at hf44_1)
  clear hcl44 ic hfr44 hM44 hoki44 hH44
  try go_wp2_with (first | ((with_reducible refine gate_store (t := 80) (p := 41) rfl ?_); refine store_event (t := 80) (p := 41) (v := ?vo_w45) (w1 := ((gc.setCell ⟨go11, (E : Int).toNat * 2, none⟩ (.int .i64 Ya)).setCell ⟨go11, (E : Int).toNat * 2 + 1, none⟩ (.slice nc Za.length oc))) ?hg ?ho ?hn ?hr ?_; (case ho => rfl); (case hg => rfl); (case hn => rfl); (case hr => first | (go_simp; done) | (go_simp; rfl)); intro Jd hw; have hg : gc.grownBy Jd (some go11) := (by rw [hw]; exact HP44.2); have hp_ : Kd.S k80 80 Jd w.heap.size (fun k_ => k_ ≠ m ∧ k_ ≠ sa) (.slice (some ⟨go11, 0, none⟩) s.length lb) pd := (by rw [hw, Ad.1]; exact HP44.1); clear HP44; replace b := bg_ b hg r; replace a := bg_ a hg r; replace l := bg_ l hg r; replace c := bg_ c hg r; replace ea := M_ (blk_grown (bq_ ea.1) hg (Kd.S_away r.1 (fun _ hk => hk.2.1))); replace r := M_ (hp_); replace D := M_ ((by rw [hw]; exact below_set (below_set (D.1) GB11.out) GB11.out : Below w.heap.size w Jd)); clear Aa; clear hg hw hp_; obtain ⟨sg, tg, ug, vg, wg, xg⟩ := bc3_ c.1; obtain ⟨yg, zg, Ag, Bg, Cg, Dg⟩ := bc3_ l.1))
  refine bodyPost_ret (results_ct rfl _ _ ra 26 #[.int .i64 aa, .int .i64 (wrap64 (ba + 1)), .slice (some ⟨go11, 0, none⟩) s.length lb] (0, 0) _ rfl (bp_ l.1) Tryz.underlying26 rfl (by kernel_rfl)) rfl ?_
  exact ⟨_, rr_, Kd.S_mono (sy_ r.1 l.1) (fun _ hk => trivial), hs_ D.1⟩
 have he : decide (0 ≤ E) = false := decide_eq_false c6
 clear c6
 have H' := M_ H
 clear H
 go_enter Tryz.func8, Tryz.ntmps8
 go_wp2_with (first | ((with_reducible refine gd_ 2 rfl ?_); refine bV_ 2 #[.int .i64 ha, .int .i64 ia, .slice Xa F.length za] 26 ?_; intro R hg Gi b hb; have Bd := gq_ hg D; replace D := st_ D hb; clear hb hg) | ((with_reducible refine gd_ 3 rfl ?_); refine bV_ 3 #[.slice ca M.length da, .int .i64 T, .int .i64 U, .string V] 29 ?_; intro m hg Hi a hb; have Cd := gq_ hg D; replace D := st_ D hb; obtain ⟨fb, rb, b⟩ := nb_ b hg hb; clear hb hg) | ((with_reducible refine gd_ 4 rfl ?_); refine bV_ 4 #[.int .i64 0, .int .i64 0, .slice none 0 0] 26 ?_; intro ra hg Ii l hb; have Dd := gq_ hg D; replace D := st_ D hb; obtain ⟨gb, sb, b⟩ := nb_ b hg hb; obtain ⟨Oa, ec, a⟩ := nb_ a hg hb; clear hb hg; have Eg := n2_ fb; have Fg := n2_ gb; obtain ⟨Gg, Hg, Ig, Jg, Kg, Lg⟩ := bc3_ b.1) | ((with_reducible refine gate_callee (f := 54) rfl ?_); refine gl_ (some 14) Tryz.func54 #[.agg #[.int .i64 ha, .int .i64 ia, .slice Xa F.length za]] ?_; (with_reducible refine (impl_copyPart.calls k ha ia _ _ F aa ba s _ ?_ ?_ A3.1).mono ?_); exact cp_ ((Kd.C_below ob.1 D.1)); exact Gb.1; rintro e Ji ⟨ie, rfl, Pa, hb⟩; refine ⟨_, rfl, ?_⟩; obtain ⟨W, fc⟩ := Kd.S_name Pa; have r := M_ (Kd.S_lower (Kd.S_newB (Kd.S_gez fc Pa) (pb_ a.1)) (below_size (hs_ D.1))); obtain ⟨b, a, l, D⟩ := u4_ hb b a l D; (try clear hb Pa)) | ((with_reducible refine gd_ 6 rfl ?_); refine bV_ 6 #[.int .i64 0, .int .i64 0, .slice none 0 0] 26 ?_; intro y hg Ki c hb; replace r := M_ (Kd.S_below (Kd.S_ltz hg (sp_ r.1)) hb); have Ed := gq_ hg D; replace D := st_ D hb; obtain ⟨tb, ja, b⟩ := nb_ b hg hb; obtain ⟨ib, ta, a⟩ := nb_ a hg hb; obtain ⟨ub, ka, l⟩ := nb_ l hg hb; clear hb hg; have Mg := n2_ ja; have Ng := n2_ ta; have Og := n2_ ka; obtain ⟨Pg, Qg, Rg, Sg, Tg, Ug⟩ := bc3_ c.1; obtain ⟨O, Q, Be⟩ := Kd.S_slice r.1; subst Be; have Vg := n2_ Oa; obtain ⟨Wg, Xg, Yg, Zg, ah, bh, ch, dh⟩ := bc4_ a.1) | ((with_reducible refine gate_callee (f := 55) rfl ?_); refine gl_ (some 21) Tryz.func55 #[.slice ca M.length da] ?_; (with_reducible refine (impl_Finger.calls k _ _ M L _ ?_ ?_ A4.1).mono ?_); exact Kd.C_below pb.1 (hs_ D.1); exact qb.1; rintro e Li ⟨rfl, hb⟩; refine ⟨_, rfl, ?_⟩; replace r := M_ (Kd.S_below (sy_ r.1 c.1) hb); obtain ⟨b, a, l⟩ := u3_ hb b a l; replace c := by_ c #[.int .i64 aa, .int .i64 (wrap64 (ba + 1)), .slice O s.length Q] hb; replace D := st_ D hb; (try clear hb); obtain ⟨eh, fh, gh, hh, ih, jh⟩ := bc3_ b.1) | ((with_reducible refine gate_callee (f := 56) rfl ?_); refine gl_ (some 24) Tryz.func56 #[.agg #[.int .i64 ha, .int .i64 ia, .slice Xa F.length za], .int .i64 L] ?_; (with_reducible refine (impl_chainOf.calls k ha ia _ _ F L E _ ?_ ?_ A5.1).mono ?_); exact cp_ ((Kd.C_below ob.1 D.1)); exact Gb.1; rintro e Mi ⟨rfl, hb⟩; refine ⟨_, rfl, ?_⟩; obtain ⟨r, b, a, l, c, D⟩ := u6_ hb r b a l c D; (try clear hb)))
 go_loopg [11] k (fun kq kh w' => ∃ (z : Int), kh = .int .i64 z ∧ Aside0 (impl_PutIn.l0 kq L z M T U V aa (wrap64 (ba + 1)) s = some (r1, r2, r3, r4)) ∧ Aside0 (kq ≤ k) ∧ Aside0 (Kd.S k80 80 w' w.heap.size (fun k_ => k_ ≠ m ∧ W ≤ k_ ∧ k_ < y) (.slice O s.length Q) s) ∧ Aside0 (w'.heap[R]? = some (.cells #[.int .i64 ha, .int .i64 ia, (.slice Xa F.length za)] 26 (0, 0))) ∧ Aside0 (w'.heap[m]? = some (.cells #[(.slice ca M.length da), .int .i64 T, .int .i64 U, .string V] 29 (0, 0))) ∧ Aside0 (w'.heap[ra]? = some (.cells #[.int .i64 0, .int .i64 0, (.slice none 0 0)] 26 (0, 0))) ∧ Aside0 (w'.heap[y]? = some (.cells #[.int .i64 aa, .int .i64 (wrap64 (ba + 1)), (.slice O s.length Q)] 26 (0, 0))) ∧ Aside0 (Below w.heap.size w w'))
 case atStart => exact ⟨(0), rs_, H', ⟨Nat.le_refl _⟩, ⟨Kd.S_mono (sp_ r.1) (fun _ hk => ⟨hk.1.2, ⟨hk.1.1.2, hk.2⟩⟩)⟩, ⟨bq_ b.1⟩, ⟨bq_ a.1⟩, ⟨bq_ l.1⟩, ⟨bq_ c.1⟩, ⟨hs_ D.1⟩⟩
 case round =>
  clear H'
  obtain ⟨z, rfl, HA, kd, d, b, a, l, c, D⟩ := hrel
  cases gk with
  | zero => exact absurd HA.1 (by simp [impl_PutIn.l0])
  | succ k1 =>
   have H := HA.1
   clear HA
   simp only [impl_PutIn.l0] at H
   have Qc := M_ H
   clear H
   go_upto_region 10 with (fail)
   go_cut [58] (fun lh wc => ∃ (kq : Nat) (Ib : Bool), lh = .bool Ib ∧ Aside0 (impl_PutIn.j1 kq L z Ib M T U V aa (wrap64 (ba + 1)) s = some (r1, r2, r3, r4)) ∧ Aside0 (kq ≤ k1) ∧ Aside0 (Kd.S k80 80 wc w.heap.size (fun k_ => k_ ≠ m ∧ W ≤ k_ ∧ k_ < y) (.slice O s.length Q) s) ∧ Aside0 (wc.heap[R]? = some (.cells #[.int .i64 ha, .int .i64 ia, (.slice Xa F.length za)] 26 (0, 0))) ∧ Aside0 (wc.heap[m]? = some (.cells #[(.slice ca M.length da), .int .i64 T, .int .i64 U, .string V] 29 (0, 0))) ∧ Aside0 (wc.heap[ra]? = some (.cells #[.int .i64 0, .int .i64 0, (.slice none 0 0)] 26 (0, 0))) ∧ Aside0 (wc.heap[y]? = some (.cells #[.int .i64 aa, .int .i64 (wrap64 (ba + 1)), (.slice O s.length Q)] 26 (0, 0))) ∧ Aside0 (Below w.heap.size w wc))
   case first =>
    have H := Qc.1
    clear Qc
    replace H := ie_ H; rcases H with ⟨Rc, H⟩ | ⟨Rc, H⟩
    ·
     have yb := decide_eq_true Rc
     clear Rc
     (first | rw [yb] | (simp only [i64_w, i32_w]; rw [yb]) | skip)
     replace H := id_ H; obtain ⟨mh, H⟩ := H
     have H' := M_ H
     clear H
     have nh := n2_ ja
     have oh := n2_ ta
     have ph := n2_ ka
     obtain ⟨qh, rh, sh, th, uh, vh⟩ := bc3_ c.1
     obtain ⟨pc, qc⟩ : 0 ≤ (z : Int) ∧ z < (s.length : Int) := pq_
     obtain ⟨wh, Ue, Ve, Ce, De, Sc, Zb, ac⟩ := at_T80 (Kd.S_reads' d.1).2.2 z pc qc
     cases Ce
     obtain ⟨xh, ld, md, rc⟩ := Kd.S_get d.1 z80 z pc (by first | exact qc | exact of_decide_eq_true (by with_reducible assumption) | (have e_ := (Kd.S_reads' d.1).1; omega))
     obtain ⟨Ee, rfl, zb⟩ := k80_openM md
     have db := rc 1 _ rfl
     rw [add_field _ _ 1 (by omega)] at db
     replace db := Option.some.inj (db.symm.trans Sc)
     rw [db] at zb
     have Fe := M_ (show Kd.S k29 29 _ _ _ _ ((rd_T80 s z).f1) from zb)
     clear db zb rc ld
     have Ge := M_ ac
     have He := M_ Zb
     clear ac Zb
     replace pc := eq_true pc; replace qc := eq_true qc
     go_wp2
     go_meet
     case rel => exact ⟨_, (decide (((rd_T80 s z).f0) ≤ L)), rs_, H', ⟨by have := kd.1; first | omega | exact Nat.le_refl _⟩, ⟨sp_ d.1⟩, ⟨bq_ b.1⟩, ⟨bq_ a.1⟩, ⟨bq_ l.1⟩, ⟨bq_ c.1⟩, ⟨hs_ D.1⟩⟩
    have yb : decide (z < (s.length : Int)) = false := decide_eq_false Rc
    clear Rc
    (first | rw [yb] | (simp only [i64_w, i32_w]; rw [yb]) | skip)
    have H' := M_ H
    clear H
    have yh := n2_ ja
    have zh := n2_ ta
    have Ah := n2_ ka
    obtain ⟨Bh, Ch, Dh, Eh, Fh, Gh⟩ := bc3_ c.1
    go_wp2
    go_meet
    case rel => exact ⟨_, (false), rs_, H', ⟨by have := kd.1; first | omega | exact Nat.le_refl _⟩, ⟨sp_ d.1⟩, ⟨bq_ b.1⟩, ⟨bq_ a.1⟩, ⟨bq_ l.1⟩, ⟨bq_ c.1⟩, ⟨hs_ D.1⟩⟩
   case rest =>
    clear Qc
    obtain ⟨kq, Ib, rfl, HA, HJ66, d, b, a, l, c, D⟩ := hcut
    cases kq with
    | zero => exact absurd HA.1 (by simp [impl_PutIn.j1])
    | succ Ie =>
     have H := HA.1
     clear HA
     simp only [impl_PutIn.j1] at H
     replace H := ib_ H; rcases H with ⟨rfl, H⟩ | ⟨rfl, H⟩
     ·
      have H' := M_ H
      clear H
      go_wp2
      go_roundg Ie
      case measure => have := kd.1; have := HJ66.1; omega
      case rel => exact ⟨(wrap64 (z + 1)), rs_, H', ⟨by have := kd.1; have := HJ66.1; omega⟩, ⟨sp_ d.1⟩, ⟨bq_ b.1⟩, ⟨bq_ a.1⟩, ⟨bq_ l.1⟩, ⟨bq_ c.1⟩, ⟨hs_ D.1⟩⟩
     replace H := bi_ H; obtain ⟨⟨Fb, bc, cc, dc⟩, Hh, H⟩ := H; (try dsimp only at H)
     obtain ⟨B, hy_⟩ : ∃ y_ : List (S29), y_ = (([(⟨Fb, bc, cc, dc⟩ : S29)] : List (S29))) := ⟨_, rfl⟩
     replace H : (if 0 ≤ z then (if z ≤ (s.length : Int) then ((some (s.drop (z : Int).toNat : List (S80))).bind fun Na => ((some (s.take (z : Int).toNat : List (S80))).bind fun Ba => (if ([] : List (S80)).length + Ba.length < 4398046511104 then ((some (([] : List (S80)) ++ Ba : List (S80))).bind fun Ea => (if Ea.length < 4398046511104 then ((some (Ea ++ [(⟨L, B⟩ : S80)] : List (S80))).bind fun Ca => (if Ca.length + Na.length < 4398046511104 then (some (aa, (wrap64 (ba + 1)), (Ca ++ Na), true)) else (none))) else (none))) else (none)))) else (none)) else (none)) = some (r1, r2, r3, r4) := hm_
     have Md := M_ hy_; clear hy_
     replace H := in_ H; obtain ⟨Nd, H⟩ := H
     have Ih := eq_true Nd
     have Jh := decide_eq_true Nd
     clear Nd
     replace H := in_ H; obtain ⟨Od, H⟩ := H
     have Kh := eq_true Od
     have Lh := decide_eq_true Od
     clear Od
     obtain ⟨Na, hy_⟩ : ∃ y_ : List (S80), y_ = (s.drop (z : Int).toNat) := ⟨_, rfl⟩
     replace H : ((some (s.take (z : Int).toNat : List (S80))).bind fun Ba => (if ([] : List (S80)).length + Ba.length < 4398046511104 then ((some (([] : List (S80)) ++ Ba : List (S80))).bind fun Ea => (if Ea.length < 4398046511104 then ((some (Ea ++ [(⟨L, B⟩ : S80)] : List (S80))).bind fun Ca => (if Ca.length + Na.length < 4398046511104 then (some (aa, (wrap64 (ba + 1)), (Ca ++ Na), true)) else (none))) else (none))) else (none))) = some (r1, r2, r3, r4) := hm_
     have Jb := M_ hy_; clear hy_
     obtain ⟨Ba, hy_⟩ : ∃ y_ : List (S80), y_ = (s.take (z : Int).toNat) := ⟨_, rfl⟩
     replace H : (if ([] : List (S80)).length + Ba.length < 4398046511104 then ((some (([] : List (S80)) ++ Ba : List (S80))).bind fun Ea => (if Ea.length < 4398046511104 then ((some (Ea ++ [(⟨L, B⟩ : S80)] : List (S80))).bind fun Ca => (if Ca.length + Na.length < 4398046511104 then (some (aa, (wrap64 (ba + 1)), (Ca ++ Na), true)) else (none))) else (none))) else (none)) = some (r1, r2, r3, r4) := hm_
     have Tc := M_ hy_; clear hy_
     replace H := im_ H; obtain ⟨Uc, H⟩ := H
     obtain ⟨Ea, hy_⟩ : ∃ y_ : List (S80), y_ = (([] : List (S80)) ++ Ba) := ⟨_, rfl⟩
     replace H : (if Ea.length < 4398046511104 then ((some (Ea ++ [(⟨L, B⟩ : S80)] : List (S80))).bind fun Ca => (if Ca.length + Na.length < 4398046511104 then (some (aa, (wrap64 (ba + 1)), (Ca ++ Na), true)) else (none))) else (none)) = some (r1, r2, r3, r4) := hm_
     have Vc := M_ hy_; clear hy_
     replace H := im_ H; obtain ⟨Pd, H⟩ := H
     obtain ⟨Ca, hy_⟩ : ∃ y_ : List (S80), y_ = (Ea ++ [(⟨L, B⟩ : S80)]) := ⟨_, rfl⟩
     replace H : (if Ca.length + Na.length < 4398046511104 then (some (aa, (wrap64 (ba + 1)), (Ca ++ Na), true)) else (none)) = some (r1, r2, r3, r4) := hm_
     have Qd := M_ hy_; clear hy_
     replace H := im_ H; obtain ⟨Rd, H⟩ := H
     obtain ⟨Wc, hy_⟩ : ∃ y_ : List (S80), y_ = (Ca ++ Na) := ⟨_, rfl⟩
     replace H : (some (aa, (wrap64 (ba + 1)), Wc, true)) = some (r1, r2, r3, r4) := hm_
     have Sd := M_ hy_; clear hy_
     simp only [Option.some.injEq, Prod.mk.injEq] at H
     obtain ⟨rfl, rfl, rfl, rfl⟩ := H
     have Mh := n2_ rb
     have Nh := n2_ Oa
     have Oh := n2_ ib
     obtain ⟨Ph, Qh, Rh, Sh, Th, Uh, Vh, Wh⟩ := bc4_ a.1
     try go_wp2_with (first | ((with_reducible refine gate_callee (f := 58) rfl ?_); refine gl_ (some 63) Tryz.func58 #[.agg #[.slice ca M.length da, .int .i64 T, .int .i64 U, .string V]] ?_; (with_reducible refine (impl_copyAlarm.calls _ _ M T U V Fb bc cc dc _ ?_ ?_ Hh.1).mono ?_); exact cp_ ((Kd.C_below pb.1 D.1)); exact qb.1; rintro e Xh ⟨ui, rfl, Pa, hb⟩; refine ⟨_, rfl, ?_⟩; obtain ⟨fa, Xc⟩ := Kd.R_name Pa; replace d := su_ Xc (sp_ d.1) hb; have Ab := rg_ Xc Pa D; obtain ⟨b, a, l, c, D⟩ := u5_ hb b a l c D; (try clear hb Pa); obtain ⟨td, ud, Je⟩ := Kd.R_slice Ab.1; subst Je) | ((with_reducible refine gd_ 64 rfl ?_); refine Kd.S_lit2 k29 w.heap.size 29 ?hg (N := 64) ?hd (x := (⟨Fb, bc, cc, dc⟩ : S29)) (cs := [.slice td Fb.length ud, .int .i64 bc, .int .i64 cc, .string dc]) (ok := (fun k_ => k_ ≠ m)) (okp := (fun k_ => some k_ = (.slice td Fb.length ud : Value).ownBlock)) (fun k_ => fa ≤ k_) ?hr ?hp (fun k_ hk_ => (fun e_ => e_.1.2) ((Kd.R_types (Ab.1) a.1 (by decide)).1 k_ hk_.symm)) (fun k_ hk_ => ((Kd.R_mono (ok' := (fun k_ => k_ ≠ m)) (Kd.R_types (Ab.1) a.1 (by decide)) (fun k_ hk => hk.2))).1 k_ hk_.symm) ?hf ?aS ?_; (case hd => rfl); (case hg => rfl); (case hr => first | (go_simp; done) | (go_simp; rfl)); (case hp => exact (k29_mkM _ _ _ (⟨Fb, bc, cc, dc⟩ : S29) (Kd.R_mono (Kd.R_tight rfl (Kd.R_mono (ok' := (fun k_ => k_ ≠ m)) (Kd.R_types (Ab.1) a.1 (by decide)) (fun k_ hk => hk.2))) (fun _ h_ => h_)))); (case hf => exact (show ∀ k_, Xh.heap.size ≤ k_ → ((fun k_ => k_ ≠ m)) k_ from fun k_ hk => Kd.freshB (g := m) (o := .cells #[.slice ca M.length da, .int .i64 T, .int .i64 U, .string V] 29 (0, 0)) (pb_ a.1) k_ hk) _ (Nat.le_refl _)); (case aS => exact (below_size (hs_ D.1))); intro vi Pi Yc hb hnew_; rw [← Md.1] at Yc; replace d := M_ (Kd.S_elder' (sp_ d.1) hnew_ hb); have G := M_ (Yc); obtain ⟨b, a, l, c, D⟩ := u5_ hb b a l c D; clear Ab; clear hb hnew_ Yc; obtain ⟨I, J, Ke⟩ := Kd.S_slice G.1; subst Ke) | ((with_reducible refine gd_ 12 rfl ?_); refine bV_ 12 #[.int .i64 0, .slice none 0 0] 80 ?_; intro q hg Yh u hb; replace d := M_ (Kd.S_below (Kd.S_ltz hg (Kd.S_elderB (sp_ d.1) q (Nat.le_of_eq hg.symm))) hb); replace G := M_ (Kd.S_below (Kd.S_ltz hg (sp_ G.1)) hb); have Zh := gq_ hg D; replace D := st_ D hb; obtain ⟨Td, jc, b⟩ := nb_ b hg hb; obtain ⟨Ud, kc, a⟩ := nb_ a hg hb; obtain ⟨Vd, lc, l⟩ := nb_ l hg hb; obtain ⟨mc, Bb, c⟩ := nb_ c hg hb; clear hb hg; have ai := n2_ jc; have bi := n2_ kc; have ci := n2_ lc; have di := n2_ Bb; obtain ⟨ei, fi, gi, hi⟩ := bc2_ u.1))
     generalize hw_ : ((Yh.setCell ⟨q, 0, none⟩ (.int .i64 L)).setCell ⟨q, 1, none⟩ (.slice I B.length J)) = Le
     have Oc := ws_ hw_ (Kd.S_mono (ok' := (fun k_ => some k_ ≠ (.slice I B.length J : Value).ownBlock ∧ k_ ≠ m ∧ W ≤ k_ ∧ k_ < y ∧ k_ < fa ∧ k_ ≠ q ∧ k_ < q)) (sf_ q d.1 (fun _ hk => hk.1.2)) (fun _ hk => ⟨hk.1.1.2, ⟨hk.1.1.1.1.1, ⟨hk.1.1.1.1.2.1, ⟨hk.1.1.1.1.2.2, ⟨hk.1.1.1.2, ⟨hk.1.2, hk.2⟩⟩⟩⟩⟩⟩))
     have Pc := ws_ hw_ (Kd.S_mono (ok' := (fun k_ => k_ ≠ m ∧ (some k_ = (.slice I B.length J : Value).ownBlock ∨ fa ≤ k_) ∧ k_ < q)) (sy_ G.1 u.1) (fun _ hk => ⟨hk.1.1, ⟨hk.1.2, hk.2⟩⟩))
     replace b := wq_ hw_ b
     replace a := wq_ hw_ a
     replace l := wq_ hw_ l
     replace c := wq_ hw_ c
     replace u := wp_ hw_ #[.int .i64 L, .slice I B.length J] u
     replace D := wb_ hw_ D
     clear hw_
     (try clear d G)
     have d := Oc
     have G := Pc
     clear Oc Pc
     have qp101 : (z : Int) ≤ ((s.length : Int) : Int) := of_decide_eq_true (by with_reducible assumption)
     have nd : (0 : Int) ≤ (z : Int) := of_decide_eq_true (by with_reducible assumption)
     have hlxp101 := (Kd.S_reads' d.1).1
     obtain ⟨i0p101, Cb, _, hszp101, _⟩ := info_parts info80
     have hcutp101 := cut_to (P := Tryz.prog) 24 80 .i64 Tryz.underlying24 Cb O s.length Q z (of_decide_eq_true (by with_reducible assumption)) qp101 (Kd.S_reads' d.1).2.1
     have hcutbp101 := cut_from (P := Tryz.prog) 24 80 .i64 Tryz.underlying24 Cb 2 hszp101 O s.length Q z nd qp101
     have KLp101 := M_ (show (z : Int).toNat ≤ s.length from by omega)
     obtain ⟨GXp101, hsrp101, hspp101, hglp101⟩ := Kd.S_split d.1 ((z : Int).toNat) KLp101.out
     have HGp101 := M_ (show ∀ k_, GXp101 k_ → k_ < q from fun k_ hk => (hglp101 k_ hk).2.2.2.2.2.2)
     have hyp101 : Ba.length = (z : Int).toNat := (by rw [Tc.1, List.length_take]; omega)
     rw [← Tc.1] at hspp101
     rw [← hyp101] at hspp101 hcutp101
     obtain ⟨Ap101b, hAbp101⟩ : ∃ A1, A1 = (if Q = (z : Int).toNat then O else (O : Option Addr).map (·.add ((z : Int).toNat * 2))) := ⟨_, rfl⟩
     obtain ⟨cp101b, hcbp101⟩ : ∃ c1, c1 = Q - (z : Int).toNat := ⟨_, rfl⟩
     have hybp101 : Na.length = s.length - (z : Int).toNat := (by rw [Jb.1, List.length_drop])
     rw [← hybp101, ← hAbp101, ← hcbp101] at hcutbp101
     have KAp101 := M_ hAbp101
     clear hcbp101 hAbp101 hybp101 hlxp101
     obtain ⟨GXp101P, hPPp101, hlPp101⟩ := Kd.S_fp hspp101
     have HGp101P := M_ (show ∀ k_, GXp101P k_ → k_ < q from fun k_ hk => (hlPp101 k_ hk).1.1.2.2.2.2.2.2)
     obtain ⟨GXp101u0, hPXp101u0, hPlp101u0⟩ := Kd.S_fp (G.1)
     have HGp101u0 := M_ (show ∀ k_, GXp101u0 k_ → k_ < q from fun k_ hk_ => (hPlp101u0 k_ hk_).1.2.2)
     have nup101u0 := M_ (Kd.S_mono hPXp101u0 (fun k_ hk_ => (⟨⟨(hPlp101u0 k_ hk_).1, hk_⟩, fun g_ => Or.elim (hPlp101u0 k_ hk_).1.2.1 (fun e3_ => (hglp101 k_ g_).1 e3_) (fun e3_ => Nat.lt_irrefl _ (Nat.lt_of_lt_of_le (hglp101 k_ g_).2.2.2.2.1 e3_))⟩ : (_ ∧ GXp101u0 k_) ∧ ¬ GXp101 k_)))
     have Ka := M_ (Kd.S_mono (Kd.S_mono hPPp101 (fun k_ hk_ => (⟨(hlPp101 k_ hk_).1, hk_⟩ : _ ∧ GXp101P k_))) (fun k_ hk => (⟨hk, fun g_ => Or.elim (hPlp101u0 k_ g_).1.2.1 (fun e3_ => hk.1.1.1 e3_) (fun e3_ => Nat.lt_irrefl _ (Nat.lt_of_lt_of_le hk.1.1.2.2.2.2.1 e3_))⟩ : _ ∧ ¬ GXp101u0 k_)))
     clear d
     have d := M_ hsrp101
     clear G
     have G := nup101u0
     clear nup101u0 hPXp101u0 hPlp101u0 hsrp101 hspp101 hglp101 hPPp101 hlPp101 hyp101 Cb hszp101
     replace qp101 := eq_true qp101
     obtain ⟨d, G, Ka, b, a, l, c, u, D⟩ := y9_ d G Ka b a l c u D
     refine start_ (n := 15) (S := fun w' => c_ w' y 0 (.int .i64 aa) ∧ c_ w' y 1 (.int .i64 (wrap64 (ba + 1))) ∧ c_ w' y 2 (.slice O s.length Q) ∧ c_ w' q 0 (.int .i64 L) ∧ c_ w' q 1 (.slice I B.length J)) (ds := [14]) (b_ 0 15) (by kernel_rfl) rfl rfl (f3_ c.1 (e2_ u.1)) (fun A => ?_); refine with_tabW impl_PutIn.tab13 impl_PutIn.bits13 (fun ga sc => ?_)
     generalize Le.drew = wi at d G Ka b a l c u D A ⊢
     refine p_ ga ?_
     refine qw_ 2 (m_ 15 5) ga ?_
     refine qw_ 8 (m_ 15 261) ga ?_
     refine qw_ 10 (m_ 15 1285) ga ?_
     refine qt_ 1 (m_ 15 1287) ga sc A ?_
     refine qw_ 3 (m_ 15 1295) ga ?_
     refine qt_ 5 (m_ 15 1327) ga sc A ?_
     refine qt_ 9 (m_ 15 1839) ga sc A ?_
     refine qw_ 11 (m_ 15 3887) ga ?_
     refine join_ (σ := Value × Nat) 4 (m_ 15 3967) (fun s_ => [(70, s_.1), (72, .slice (some ⟨s_.2, 0, none⟩) 1 1)]) (fun s_ w' => (c_ w' y 0 (.int .i64 aa) ∧ c_ w' y 1 (.int .i64 (wrap64 (ba + 1))) ∧ c_ w' y 2 (.slice O s.length Q) ∧ c_ w' q 0 (.int .i64 L) ∧ c_ w' q 1 (.slice I B.length J)) ∧ (Kd.S k29 29 w' w.heap.size (fun k_ => k_ ≠ m ∧ GXp101u0 k_ ∧ k_ < q ∧ ¬ GXp101 k_ ∧ (some k_ = (.slice I B.length J : Value).ownBlock ∨ fa ≤ k_)) (.slice I B.length J) B) ∧ (Kd.S k80 80 w' w.heap.size (fun k_ => some k_ ≠ (.slice I B.length J : Value).ownBlock ∧ some k_ ≠ (.slice O s.length Q : Value).ownBlock ∧ k_ ≠ m ∧ k_ ≠ q ∧ k_ ≠ s_.2 ∧ ¬ GXp101 k_ ∧ ¬ GXp101u0 k_) s_.1 Ea) ∧ (Kd.S (Kd.opt k80) 80 w' w.heap.size (fun k_ => some k_ ≠ (.slice I B.length J : Value).ownBlock ∧ some k_ ≠ (s_.1 : Value).ownBlock ∧ k_ ≠ m ∧ k_ ≠ q ∧ k_ ≠ s_.2 ∧ W ≤ k_ ∧ GXp101 k_ ∧ k_ < y ∧ k_ < q ∧ k_ < fa) (.slice O s.length Q) (Kd.gap ((z : Int).toNat) s)) ∧ (w'.heap[R]? = some (.cells #[.int .i64 ha, .int .i64 ia, .slice Xa F.length za] 26 (0, 0))) ∧ (w'.heap[m]? = some (.cells #[.slice ca M.length da, .int .i64 T, .int .i64 U, .string V] 29 (0, 0))) ∧ (w'.heap[ra]? = some (.cells #[.int .i64 0, .int .i64 0, .slice none 0 0] 26 (0, 0))) ∧ (w'.heap[y]? = some (.cells #[.int .i64 aa, .int .i64 (wrap64 (ba + 1)), .slice O s.length Q] 26 (0, 0))) ∧ (w'.heap[q]? = some (.cells #[.int .i64 L, .slice I B.length J] 80 (0, 0))) ∧ (w'.heap[s_.2]? = some (.cells #[.int .i64 L, .slice I B.length J] 80 (0, 0))) ∧ (w.heap.size ≤ s_.2) ∧ (w.heap.size ≤ s_.2) ∧ (R ≠ s_.2) ∧ (s_.2 ≠ R) ∧ (m ≠ s_.2) ∧ (s_.2 ≠ m) ∧ (ra ≠ s_.2) ∧ (s_.2 ≠ ra) ∧ (y ≠ s_.2) ∧ (s_.2 ≠ y) ∧ (q ≠ s_.2) ∧ (s_.2 ≠ q) ∧ (Below w.heap.size w w')) ?_ ?_
     rotate_left
     ·
      intro wb
      refine two_ (i := 4) (j := 6) (Ni := some 70) (Nj := some 72) (m_ 15 3903) (m_ 15 3951) rfl rfl rfl rfl (two_of ga.1 (by kernel_rfl)) (by decide) (by decide) (fun K hK => ?_) (fun K hK => ?_)
      ·
       skip
       refine Kd.S_append_part_step k80 (w0 := w) w.heap.size (by rfl) (.const (.slice none 0 0)) (.tmp 69) 24 80 (.agg #[(.int .i64 0), (.slice none 0 0)]) 32 rfl Tryz.underlying24 info80 rfl (by decide) (by omega) (.slice none 0 0) ([] : List (S80)) Ba _ _ _ (fun k_ => some k_ ≠ (.slice O s.length Q : Value).ownBlock ∧ some k_ ≠ (.slice I B.length J : Value).ownBlock ∧ k_ ≠ m ∧ k_ ≠ q ∧ ¬ GXp101 k_ ∧ ¬ GXp101u0 k_) (fun k_ => some k_ ≠ (.slice I B.length J : Value).ownBlock ∧ k_ ≠ m ∧ W ≤ k_ ∧ k_ < y ∧ k_ < fa ∧ k_ ≠ q ∧ k_ < q ∧ (¬ GXp101 k_ ∨ some k_ = (.slice O Ba.length Q : Value).ownBlock) ∧ GXp101P k_ ∧ ¬ GXp101u0 k_) rfl rfl ?aR (fun k_ hx_ ho_ => by have hz_ : ((((fun k_ => some k_ ≠ (.slice I B.length J : Value).ownBlock ∧ k_ ≠ m ∧ W ≤ k_ ∧ k_ < y ∧ k_ < fa ∧ k_ ≠ q ∧ k_ < q ∧ (¬ GXp101 k_ ∨ some k_ = (.slice O Ba.length Q : Value).ownBlock) ∧ GXp101P k_ ∧ ¬ GXp101u0 k_)) k_ ∧ ¬ GXp101 k_) ∧ some k_ ≠ (.slice O s.length Q : Value).ownBlock) := ⟨⟨hx_, fun g_ => (hx_.2.2.2.2.2.2.2.1).elim (fun h_ => h_ g_) (fun h_ => ho_ h_)⟩, fun e_ => ho_ (e_.trans Kd.own_len)⟩; exact ⟨⟨hz_.2, ⟨hz_.1.1.1, ⟨hz_.1.1.2.1, ⟨hz_.1.1.2.2.2.2.2.1, ⟨hz_.1.2, hz_.1.1.2.2.2.2.2.2.2.2.2⟩⟩⟩⟩⟩, (by simp [Value.ownBlock])⟩) ?aF ?aO ?aB ?aS ?aL ?_
       (case aR => exact (Kd.S_mono (Ka.1) (fun k_ hk => ⟨hk.1.1.1.1, ⟨hk.1.1.1.2.1, ⟨hk.1.1.1.2.2.1, ⟨hk.1.1.1.2.2.2.1, ⟨hk.1.1.1.2.2.2.2.1, ⟨hk.1.1.1.2.2.2.2.2.1, ⟨hk.1.1.1.2.2.2.2.2.2, ⟨hk.1.1.2, ⟨hk.1.2, hk.2⟩⟩⟩⟩⟩⟩⟩⟩⟩)))
       (case aB => exact (hs_ D.1))
       (case aF => exact (fun k_ hk => ⟨Kd.fresh' (Kd.S_lt (sp_ d.1)) k_ hk, Kd.fresh' (Kd.S_lt (sp_ G.1)) k_ hk, Kd.freshB (g := m) (o := .cells #[.slice ca M.length da, .int .i64 T, .int .i64 U, .string V] 29 (0, 0)) (pb_ a.1) k_ hk, Kd.freshB (g := q) (o := .cells #[.int .i64 L, .slice I B.length J] 80 (0, 0)) (pb_ u.1) k_ hk, (fun g_ => Nat.lt_irrefl _ (Nat.lt_of_lt_of_le (Nat.lt_trans (HGp101.out k_ g_) (blk_lt (pb_ u.1))) hk)), (fun g_ => Nat.lt_irrefl _ (Nat.lt_of_lt_of_le (Nat.lt_trans (HGp101u0.out k_ g_) (blk_lt (pb_ u.1))) hk))⟩))
       (case aO => exact ((Kd.S_nil _ _ _ _ _)))
       (case aS => exact (below_size (hs_ D.1)))
       (case aL => have := Uc.1; omega)
       intro Db Me ho hb hg hat
       rw [← Vc.1] at ho
       replace d := M_ (Kd.S_after (Kd.S_apart_nil (sp_ d.1)) hg hat)
       replace b := M_ (blk_grown (bq_ b.1) hg (by simp [Value.ownBlock]))
       replace a := M_ (blk_grown (bq_ a.1) hg (by simp [Value.ownBlock]))
       replace l := M_ (blk_grown (bq_ l.1) hg (by simp [Value.ownBlock]))
       replace c := M_ (blk_grown (bq_ c.1) hg (by simp [Value.ownBlock]))
       replace G := M_ (Kd.S_grown (sp_ G.1) hg (fun _ _ => by simp [Value.ownBlock]))
       replace u := M_ (blk_grown (bq_ u.1) hg (by simp [Value.ownBlock]))
       replace D := M_ (hb)
       have pa := M_ (ho)
       clear Ka
       clear ho hb hg hat
       refine ho_ hK (f3_ c.1 (e2_ u.1)) (fun A => ?_)
       refine o1_ 6 (m_ 15 3967) ga (fun K hK => ?_)
       refine box_stepL ?hg (N := 72) ?hd (cs := #[.int .i64 L, .slice I B.length J]) (t := 80) ?hr ?_; (case hd => rfl); (case hg => rfl); (case hr => first | (go_simp; done) | (go_simp; rfl))
       intro Z hg Ne bb hb
       replace d := se_ d hg hb
       replace G := sb_ G hb
       replace pa := se_ pa hg hb
       have qa := M_ (bb)
       have Kb := gq_ hg D
       have Lb := gq_ hg D
       replace D := st_ D hb
       have Qa := nk_ b hg
       have Ra := Ne_.mk (ng_ b.1 hg)
       replace b := bk2_ b hb
       have Sa := nk_ a hg
       have Ta := Ne_.mk (ng_ a.1 hg)
       replace a := bk2_ a hb
       have Fa := nk_ l hg
       have Ua := Ne_.mk (ng_ l.1 hg)
       replace l := bk2_ l hb
       have ya := nk_ c hg
       have Ga := Ne_.mk (ng_ c.1 hg)
       replace c := bk2_ c hb
       have Va := nk_ u hg
       have Wa := Ne_.mk (ng_ u.1 hg)
       replace u := bk2_ u hb
       clear hb bb hg
       refine ho_ hK (f3_ c.1 (e2_ u.1)) (fun A => ?_)
       exact norm_ (by simp only [putAll, fr_]) (wb (Db, Z) _ ⟨A, (Kd.S_mono (sp_ G.1) (fun _ hk => ⟨hk.1.1.1, ⟨hk.1.2, ⟨hk.1.1.2.2, ⟨hk.2, hk.1.1.2.1⟩⟩⟩⟩)), (Kd.S_mono (sp_ pa.1) (fun _ hk => ⟨hk.1.2.1, ⟨hk.1.1, ⟨hk.1.2.2.1, ⟨hk.1.2.2.2.1, ⟨hk.2, ⟨hk.1.2.2.2.2.1, hk.1.2.2.2.2.2⟩⟩⟩⟩⟩⟩)), (Kd.S_mono (sp_ d.1) (fun _ hk => ⟨hk.1.1.1.1, ⟨hk.1.2, ⟨hk.1.1.1.2.1, ⟨hk.1.1.1.2.2.2.2.2.1, ⟨hk.2, ⟨hk.1.1.1.2.2.1, ⟨hk.1.1.2, ⟨hk.1.1.1.2.2.2.1, ⟨hk.1.1.1.2.2.2.2.2.2, hk.1.1.1.2.2.2.2.1⟩⟩⟩⟩⟩⟩⟩⟩⟩)), (pb_ b.1), (pb_ a.1), (pb_ l.1), (pb_ c.1), (pb_ u.1), (pb_ qa.1), Kb.1, Lb.1, Qa.1, Ra.1, Sa.1, Ta.1, Fa.1, Ua.1, ya.1, Ga.1, Va.1, Wa.1, (hs_ D.1)⟩)
      skip
      refine box_stepL ?hg (N := 72) ?hd (cs := #[.int .i64 L, .slice I B.length J]) (t := 80) ?hr ?_; (case hd => rfl); (case hg => rfl); (case hr => first | (go_simp; done) | (go_simp; rfl))
      intro Z hg Me bb hb
      replace d := se_ d hg hb
      replace G := sb_ G hb
      replace Ka := se_ Ka hg hb
      have qa := M_ (bb)
      have Kb := gq_ hg D
      have Lb := gq_ hg D
      replace D := st_ D hb
      have Qa := nk_ b hg
      have Ra := Ne_.mk (ng_ b.1 hg)
      replace b := bk2_ b hb
      have Sa := nk_ a hg
      have Ta := Ne_.mk (ng_ a.1 hg)
      replace a := bk2_ a hb
      have Fa := nk_ l hg
      have Ua := Ne_.mk (ng_ l.1 hg)
      replace l := bk2_ l hb
      have ya := nk_ c hg
      have Ga := Ne_.mk (ng_ c.1 hg)
      replace c := bk2_ c hb
      have Va := nk_ u hg
      have Wa := Ne_.mk (ng_ u.1 hg)
      replace u := bk2_ u hb
      clear hb bb hg
      refine ho_ hK (f3_ c.1 (e2_ u.1)) (fun A => ?_)
      refine o1_ 4 (m_ 15 3967) ga (fun K hK => ?_)
      refine Kd.S_append_part_step k80 (w0 := w) w.heap.size (by rfl) (.const (.slice none 0 0)) (.tmp 69) 24 80 (.agg #[(.int .i64 0), (.slice none 0 0)]) 32 rfl Tryz.underlying24 info80 rfl (by decide) (by omega) (.slice none 0 0) ([] : List (S80)) Ba _ _ _ (fun k_ => some k_ ≠ (.slice O s.length Q : Value).ownBlock ∧ some k_ ≠ (.slice I B.length J : Value).ownBlock ∧ k_ ≠ m ∧ k_ ≠ q ∧ k_ ≠ Z ∧ ¬ GXp101 k_ ∧ ¬ GXp101u0 k_) (fun k_ => some k_ ≠ (.slice I B.length J : Value).ownBlock ∧ k_ ≠ m ∧ W ≤ k_ ∧ k_ < y ∧ k_ < fa ∧ k_ ≠ q ∧ k_ < q ∧ (¬ GXp101 k_ ∨ some k_ = (.slice O Ba.length Q : Value).ownBlock) ∧ GXp101P k_ ∧ ¬ GXp101u0 k_ ∧ k_ ≠ Z) rfl rfl ?aR (fun k_ hx_ ho_ => by have hz_ : ((((fun k_ => some k_ ≠ (.slice I B.length J : Value).ownBlock ∧ k_ ≠ m ∧ W ≤ k_ ∧ k_ < y ∧ k_ < fa ∧ k_ ≠ q ∧ k_ < q ∧ (¬ GXp101 k_ ∨ some k_ = (.slice O Ba.length Q : Value).ownBlock) ∧ GXp101P k_ ∧ ¬ GXp101u0 k_ ∧ k_ ≠ Z)) k_ ∧ ¬ GXp101 k_) ∧ some k_ ≠ (.slice O s.length Q : Value).ownBlock) := ⟨⟨hx_, fun g_ => (hx_.2.2.2.2.2.2.2.1).elim (fun h_ => h_ g_) (fun h_ => ho_ h_)⟩, fun e_ => ho_ (e_.trans Kd.own_len)⟩; exact ⟨⟨hz_.2, ⟨hz_.1.1.1, ⟨hz_.1.1.2.1, ⟨hz_.1.1.2.2.2.2.2.1, ⟨hz_.1.1.2.2.2.2.2.2.2.2.2.2, ⟨hz_.1.2, hz_.1.1.2.2.2.2.2.2.2.2.2.1⟩⟩⟩⟩⟩⟩, (by simp [Value.ownBlock])⟩) ?aF ?aO ?aB ?aS ?aL ?_
      (case aR => exact (Kd.S_mono (Ka.1) (fun k_ hk => ⟨hk.1.1.1.1.1, ⟨hk.1.1.1.1.2.1, ⟨hk.1.1.1.1.2.2.1, ⟨hk.1.1.1.1.2.2.2.1, ⟨hk.1.1.1.1.2.2.2.2.1, ⟨hk.1.1.1.1.2.2.2.2.2.1, ⟨hk.1.1.1.1.2.2.2.2.2.2, ⟨hk.1.1.1.2, ⟨hk.1.1.2, ⟨hk.1.2, hk.2⟩⟩⟩⟩⟩⟩⟩⟩⟩⟩)))
      (case aB => exact (hs_ D.1))
      (case aF => exact (fun k_ hk => ⟨Kd.fresh' (Kd.S_lt (sp_ d.1)) k_ hk, Kd.fresh' (Kd.S_lt (sp_ G.1)) k_ hk, Kd.freshB (g := m) (o := .cells #[.slice ca M.length da, .int .i64 T, .int .i64 U, .string V] 29 (0, 0)) (pb_ a.1) k_ hk, Kd.freshB (g := q) (o := .cells #[.int .i64 L, .slice I B.length J] 80 (0, 0)) (pb_ u.1) k_ hk, Kd.freshB (g := Z) (o := .cells #[.int .i64 L, .slice I B.length J] 80 (0, 0)) (pb_ qa.1) k_ hk, (fun g_ => Nat.lt_irrefl _ (Nat.lt_of_lt_of_le (Nat.lt_trans (HGp101.out k_ g_) (blk_lt (pb_ u.1))) hk)), (fun g_ => Nat.lt_irrefl _ (Nat.lt_of_lt_of_le (Nat.lt_trans (HGp101u0.out k_ g_) (blk_lt (pb_ u.1))) hk))⟩))
      (case aO => exact ((Kd.S_nil _ _ _ _ _)))
      (case aS => exact (below_size (hs_ D.1)))
      (case aL => have := Uc.1; omega)
      intro Db Ne ho hb hg hat
      rw [← Vc.1] at ho
      replace d := M_ (Kd.S_after (Kd.S_apart_nil (sp_ d.1)) hg hat)
      replace b := M_ (blk_grown (bq_ b.1) hg (by simp [Value.ownBlock]))
      replace a := M_ (blk_grown (bq_ a.1) hg (by simp [Value.ownBlock]))
      replace l := M_ (blk_grown (bq_ l.1) hg (by simp [Value.ownBlock]))
      replace c := M_ (blk_grown (bq_ c.1) hg (by simp [Value.ownBlock]))
      replace G := M_ (Kd.S_grown (sp_ G.1) hg (fun _ _ => by simp [Value.ownBlock]))
      replace u := M_ (blk_grown (bq_ u.1) hg (by simp [Value.ownBlock]))
      replace qa := M_ (blk_grown (bq_ qa.1) hg (by simp [Value.ownBlock]))
      replace D := M_ (hb)
      have pa := M_ (ho)
      clear Ka
      clear ho hb hg hat
      refine ho_ hK (f3_ c.1 (e2_ u.1)) (fun A => ?_)
      exact norm_ (by simp only [putAll, fr_]) (wb (Db, Z) _ ⟨A, (Kd.S_mono (sp_ G.1) (fun _ hk => ⟨hk.1.1.1, ⟨hk.1.2, ⟨hk.1.1.2.2, ⟨hk.2, hk.1.1.2.1⟩⟩⟩⟩)), (Kd.S_mono (sp_ pa.1) (fun _ hk => ⟨hk.2.1, ⟨hk.1, ⟨hk.2.2.1, ⟨hk.2.2.2.1, ⟨hk.2.2.2.2.1, ⟨hk.2.2.2.2.2.1, hk.2.2.2.2.2.2⟩⟩⟩⟩⟩⟩)), (Kd.S_mono (sp_ d.1) (fun _ hk => ⟨hk.1.1.1.1, ⟨hk.2, ⟨hk.1.1.1.2.1, ⟨hk.1.1.1.2.2.2.2.2.1, ⟨hk.1.2, ⟨hk.1.1.1.2.2.1, ⟨hk.1.1.2, ⟨hk.1.1.1.2.2.2.1, ⟨hk.1.1.1.2.2.2.2.2.2, hk.1.1.1.2.2.2.2.1⟩⟩⟩⟩⟩⟩⟩⟩⟩)), (pb_ b.1), (pb_ a.1), (pb_ l.1), (pb_ c.1), (pb_ u.1), (pb_ qa.1), Kb.1, Lb.1, Qa.1, Ra.1, Sa.1, Ta.1, Fa.1, Ua.1, ya.1, Ga.1, Va.1, Wa.1, (hs_ D.1)⟩)
     rintro ⟨Db, Z⟩ Ha ⟨Fd, Ec, Fc, Gc, Hc, Ic, Jc, Kc, Lc, Mc, Nc, Rb, Sb, Tb, Ub, Vb, Wb, Xb, Yb, vd, wd, xd, yd⟩
     replace G : Aside0 (Kd.S k29 29 Ha w.heap.size (fun k_ => k_ ≠ m ∧ GXp101u0 k_ ∧ k_ < q ∧ ¬ GXp101 k_ ∧ (some k_ = (.slice I B.length J : Value).ownBlock ∨ fa ≤ k_)) (.slice I B.length J) B) := ⟨Ec⟩
     have pa : Aside0 (Kd.S k80 80 Ha w.heap.size (fun k_ => some k_ ≠ (.slice I B.length J : Value).ownBlock ∧ some k_ ≠ (.slice O s.length Q : Value).ownBlock ∧ k_ ≠ m ∧ k_ ≠ q ∧ k_ ≠ Z ∧ ¬ GXp101 k_ ∧ ¬ GXp101u0 k_) Db Ea) := ⟨Fc⟩
     replace d : Aside0 (Kd.S (Kd.opt k80) 80 Ha w.heap.size (fun k_ => some k_ ≠ (.slice I B.length J : Value).ownBlock ∧ some k_ ≠ (Db : Value).ownBlock ∧ k_ ≠ m ∧ k_ ≠ q ∧ k_ ≠ Z ∧ W ≤ k_ ∧ GXp101 k_ ∧ k_ < y ∧ k_ < q ∧ k_ < fa) (.slice O s.length Q) (Kd.gap ((z : Int).toNat) s)) := ⟨Gc⟩
     replace b : Aside0 (Ha.heap[R]? = some (.cells #[.int .i64 ha, .int .i64 ia, .slice Xa F.length za] 26 (0, 0))) := ⟨Hc⟩
     replace a : Aside0 (Ha.heap[m]? = some (.cells #[.slice ca M.length da, .int .i64 T, .int .i64 U, .string V] 29 (0, 0))) := ⟨Ic⟩
     replace l : Aside0 (Ha.heap[ra]? = some (.cells #[.int .i64 0, .int .i64 0, .slice none 0 0] 26 (0, 0))) := ⟨Jc⟩
     replace c : Aside0 (Ha.heap[y]? = some (.cells #[.int .i64 aa, .int .i64 (wrap64 (ba + 1)), .slice O s.length Q] 26 (0, 0))) := ⟨Kc⟩
     replace u : Aside0 (Ha.heap[q]? = some (.cells #[.int .i64 L, .slice I B.length J] 80 (0, 0))) := ⟨Lc⟩
     have qa : Aside0 (Ha.heap[Z]? = some (.cells #[.int .i64 L, .slice I B.length J] 80 (0, 0))) := ⟨Mc⟩
     have Kb := Ge_.mk Nc
     have Lb := Ge_.mk Rb
     have Qa := Ne_.mk Sb
     have Ra := Ne_.mk Tb
     have Sa := Ne_.mk Ub
     have Ta := Ne_.mk Vb
     have Fa := Ne_.mk Wb
     have Ua := Ne_.mk Xb
     have ya := Ne_.mk Yb
     have Ga := Ne_.mk vd
     have Va := Ne_.mk wd
     have Wa := Ne_.mk xd
     replace D : Aside0 (Below w.heap.size w Ha) := ⟨yd⟩
     clear Ka Ec Fc Gc Hc Ic Jc Kc Lc Mc Nc Rb Sb Tb Ub Vb Wb Xb Yb vd wd xd yd
     have A : c_ Ha y 0 (.int .i64 aa) ∧ c_ Ha y 1 (.int .i64 (wrap64 (ba + 1))) ∧ c_ Ha y 2 (.slice O s.length Q) ∧ c_ Ha q 0 (.int .i64 L) ∧ c_ Ha q 1 (.slice I B.length J) := Fd
     obtain ⟨od, Zc, Ia⟩ := Kd.S_fp (Kd.S_types (Kd.S_types (Kd.S_apart' (Kd.S_apart' (G.1) (Kd.S_typed d.1) (by decide)) (Kd.S_typed pa.1) (by decide)) u.1 (by decide)) qa.1 (by decide))
     refine nm_ ?_
     refine o1_ 7 (b_ 12 3) ga (fun K hK => ?_)
     refine Kd.S_append_box_step k80 (w0 := w) w.heap.size (by rfl) (.tmp 70) (.tmp 72) 24 80 (.agg #[(.int .i64 0), (.slice none 0 0)]) 32 rfl Tryz.underlying24 info80 rfl (by decide) (by omega) Db Ea (⟨L, B⟩ : S80) [.int .i64 L, .slice I B.length J] (fun k_ => some k_ ≠ (.slice O s.length Q : Value).ownBlock ∧ k_ ≠ m ∧ k_ ≠ q ∧ k_ ≠ Z ∧ ¬ GXp101 k_) (fun k_ => od k_) Z (pb_ qa.1) rfl rfl ?aP (fun k_ hk_ => ⟨⟨(Ia k_ hk_).1.1.1.1.2, ⟨(Ia k_ hk_).1.1.1.1.1.1, ⟨(Ia k_ hk_).1.1.2, ⟨(Ia k_ hk_).1.2, (Ia k_ hk_).1.1.1.1.1.2.2.2.1⟩⟩⟩⟩, (Ia k_ hk_).1.1.1.2⟩) ?aF ?aO ?aB ?aS ?aL ?_
     (case aP => exact k80_mkM _ _ _ (⟨L, B⟩ : S80) (Kd.S_mono Zc (fun _ h_ => h_)))
     (case aB => exact (hs_ D.1))
     (case aF => exact (fun k_ hk => ⟨Kd.fresh' (Kd.S_lt (sp_ d.1)) k_ hk, Kd.freshB (g := m) (o := .cells #[.slice ca M.length da, .int .i64 T, .int .i64 U, .string V] 29 (0, 0)) (pb_ a.1) k_ hk, Kd.freshB (g := q) (o := .cells #[.int .i64 L, .slice I B.length J] 80 (0, 0)) (pb_ u.1) k_ hk, Kd.freshB (g := Z) (o := .cells #[.int .i64 L, .slice I B.length J] 80 (0, 0)) (pb_ qa.1) k_ hk, (fun g_ => Nat.lt_irrefl _ (Nat.lt_of_lt_of_le (Nat.lt_trans (HGp101.out k_ g_) (blk_lt (pb_ u.1))) hk))⟩))
     (case aO => exact (Kd.S_mono (sp_ pa.1) (fun k_ hk => ⟨⟨hk.2.1, ⟨hk.2.2.1, ⟨hk.2.2.2.1, ⟨hk.2.2.2.2.1, hk.2.2.2.2.2.1⟩⟩⟩⟩, fun e_ => (fun ez_ => hk.2.2.2.2.2.2 (Ia _ ez_).1.1.1.1.1.2.1) e_⟩)))
     (case aS => exact (below_size (hs_ D.1)))
     (case aL => have := Pd.1; omega)
     intro zd xi ho hb hg hat
     rw [← Qd.1] at ho
     replace d := M_ (Kd.S_after (ok := (fun k_ => some k_ ≠ (.slice I B.length J : Value).ownBlock ∧ k_ ≠ m ∧ k_ ≠ q ∧ k_ ≠ Z ∧ W ≤ k_ ∧ GXp101 k_ ∧ k_ < y ∧ k_ < q ∧ k_ < fa)) (Kd.S_mono (sp_ d.1) (fun _ hk => ⟨⟨hk.1, ⟨hk.2.2.1, ⟨hk.2.2.2.1, ⟨hk.2.2.2.2.1, ⟨hk.2.2.2.2.2.1, ⟨hk.2.2.2.2.2.2.1, ⟨hk.2.2.2.2.2.2.2.1, ⟨hk.2.2.2.2.2.2.2.2.1, hk.2.2.2.2.2.2.2.2.2⟩⟩⟩⟩⟩⟩⟩⟩, hk.2.1⟩)) hg hat)
     replace b := bg_ b hg pa
     replace a := bg_ a hg pa
     replace l := bg_ l hg pa
     replace c := bg_ c hg pa
     replace u := M_ (blk_grown (bq_ u.1) hg (Kd.S_away pa.1 (fun _ hk => hk.2.2.2.1)))
     replace qa := M_ (blk_grown (bq_ qa.1) hg (Kd.S_away pa.1 (fun _ hk => hk.2.2.2.2.1)))
     replace D := M_ (hb)
     have eb := M_ (ho)
     clear pa G
     clear ho hb hg hat
     refine ho_ hK (f3_ c.1 (e2_ u.1)) (fun A => ?_)
     refine o1_ 12 (b_ 13 2) ga (fun K hK => ?_)
     refine Kd.S_append_rest_step k80 (w0 := w) w.heap.size (by rfl) (.tmp 73) (.tmp 77) 24 80 (.agg #[(.int .i64 0), (.slice none 0 0)]) 32 rfl Tryz.underlying24 info80 rfl (by decide) (by omega) zd Ca s O s.length Q ((z : Int).toNat) cp101b (fun k_ => k_ ≠ m ∧ k_ ≠ q ∧ k_ ≠ Z) (fun k_ => some k_ ≠ (zd : Value).ownBlock ∧ k_ ≠ m ∧ k_ ≠ q ∧ k_ ≠ Z ∧ W ≤ k_ ∧ GXp101 k_ ∧ k_ < y ∧ k_ < q ∧ k_ < fa) rfl KLp101.out (by rw [show (if Q = (z : Int).toNat then O else (O : Option Addr).map (·.add ((z : Int).toNat * (k80).sz))) = Ap101b from KAp101.out.symm, ← Jb.1]; rfl) ?aR (fun k_ hk ho_ => ⟨⟨hk.2.1, ⟨hk.2.2.1, hk.2.2.2.1⟩⟩, hk.1⟩) ?aF ?aO ?aB ?aS ?aL ?_
     (case aR => exact (Kd.S_mono (d.1) (fun k_ hk => ⟨hk.2, ⟨hk.1.2.1, ⟨hk.1.2.2.1, ⟨hk.1.2.2.2.1, ⟨hk.1.2.2.2.2.1, ⟨hk.1.2.2.2.2.2.1, ⟨hk.1.2.2.2.2.2.2.1, ⟨hk.1.2.2.2.2.2.2.2.1, hk.1.2.2.2.2.2.2.2.2⟩⟩⟩⟩⟩⟩⟩⟩)))
     (case aB => exact (hs_ D.1))
     (case aF => exact (fun k_ hk => ⟨Kd.freshB (g := m) (o := .cells #[.slice ca M.length da, .int .i64 T, .int .i64 U, .string V] 29 (0, 0)) (pb_ a.1) k_ hk, Kd.freshB (g := q) (o := .cells #[.int .i64 L, .slice I B.length J] 80 (0, 0)) (pb_ u.1) k_ hk, Kd.freshB (g := Z) (o := .cells #[.int .i64 L, .slice I B.length J] 80 (0, 0)) (pb_ qa.1) k_ hk⟩))
     (case aO => exact (Kd.S_mono (sp_ eb.1) (fun k_ hk => ⟨⟨hk.2.1, ⟨hk.2.2.1, hk.2.2.2.1⟩⟩, fun e_ => hk.2.2.2.2 e_.1.2.2.2.2.2.1⟩)))
     (case aS => exact (below_size (hs_ D.1)))
     (case aL => have := Rd.1; rw [Jb.1] at this; omega)
     intro yi Oe ho hb hg hat
     rw [← Jb.1] at ho
     rw [← Sd.1] at ho
     replace b := bg_ b hg eb
     replace a := bg_ a hg eb
     replace l := bg_ l hg eb
     replace c := bg_ c hg eb
     replace u := M_ (blk_grown (bq_ u.1) hg (Kd.S_away eb.1 (fun _ hk => hk.2.2.1)))
     replace qa := M_ (blk_grown (bq_ qa.1) hg (Kd.S_away eb.1 (fun _ hk => hk.2.2.2.1)))
     replace D := M_ (hb)
     have ad := M_ (ho)
     clear eb d
     clear ho hb hg hat
     obtain ⟨bd, cd, dd⟩ := Kd.S_slice ad.1
     (first | subst dd | (obtain ⟨rfl, rfl⟩ := si_ dd))
     refine ho_ hK (f3_ c.1 (e2_ u.1)) (fun A => ?_)
     refine p_ ga ?_
     refine l1_ 14 (b_ 15 0) ga (fun K hK => ?_)
     have ii : Oe.cell? ⟨y, 2, none⟩ = some (.slice O s.length Q) := bx_ c.1 2
     have We := blk_frozen c.1 2
     have Wd := tb.1
     have Xd := ib.1
     have Yd := ub.1
     have Zd := Bb.1
     have ae := Ga.1
     have be := ja.1
     have ce := ta.1
     have de := ka.1
     have ee := mc.1
     have fe := ya.1
     refine skip_ (w1 := ?_) (by rfl) rfl ?_ ?_
     rotate_left
     ·
      go_simp
      rfl
     refine hK.out _ _ ?_
     clear hK K
     refine done_ (done_of ga.1 (by kernel_rfl)) ?_
     have Xe := n2_ ja
     have Ye := n2_ ka
     have Ze := n2_ ya
     obtain ⟨af, bf, cf, df, ef, ff⟩ := bc3_ c.1
     have gf := n2_ sb
     have jf := n2_ Fa
     obtain ⟨kf, lf, mf, nf, pf, qf⟩ := bc3_ l.1
     try go_wp2
     refine bodyPost_ret (results_ct rfl _ _ ra 26 #[.int .i64 aa, .int .i64 (wrap64 (ba + 1)), .slice bd Wc.length cd] (0, 0) _ rfl (bp_ l.1) Tryz.underlying26 rfl (by kernel_rfl)) rfl ?_
     exact ⟨_, rr_, Kd.S_mono (sf_ ra (Kd.S_far (p := ⟨y, 2, none⟩) (Kd.S_types (Kd.S_types ad.1 c.1 (by decide)) l.1 (by decide)) (fun _ hk => hk.1.2) (.slice bd Wc.length cd)) (fun _ hk => hk.2)) (fun _ hk => trivial), hs_ D.1⟩
def spec_DrawFindIn.f (k : Nat) (e : List Int) : Option (Int × Int × (List (S80)) × (List (S99))) := (spec_l1New.f k e).bind fun b => ((spec_l7Any.f k b.1 b.2.1 b.2.2 0 1).bind fun a => ((spec_AlarmsIn.f k a.1 a.2.1 a.2.2.1).bind fun d => ((spec_l7Labels.f k b.1 a.2.2.2.1 a.2.2.2.2 d).bind fun c => (some (a.1, a.2.1, a.2.2.1, c.1)))))
theorem spec_DrawFindIn.calls (k : Nat) (A0 : Option Addr) (c0 : Nat) (L : List Int) (r1 : Int) (r2 : Int) (r3 : List (S80)) (r4 : List (S99)) (w : World) (U : Kd.C (Kd.int .u8) w A0 L.length L) (V : L.length ≤ c0) (h : spec_DrawFindIn.f k L = some (r1, r2, r3, r4)) :
  Calls Tryz.prog 10 #[.slice A0 L.length c0] w fun e w' => ∃ v2_ v3_ : Value, e = .returned (.tuple #[.agg #[.int .i64 r1, .int .i64 r2, v2_], v3_]) ∧ Kd.S k80 80 w' w.heap.size (fun k_ => some k_ ≠ (v3_ : Value).ownBlock) v2_ r3 ∧ Kd.R k99 99 w' w.heap.size (fun _ => True) v3_ r4 ∧ Below w.heap.size w w' := by
 have hu26 := Tryz.underlying26
 have na := M_ U
 have oa := M_ V
 clear U V
 have p := M_ (Below.refl w.heap.size w)
 unfold spec_DrawFindIn.f at h
 have H := h; clear h
 replace H := bi_ H; obtain ⟨⟨o, G, I⟩, A2, H⟩ := H; (try dsimp only at H)
 replace H := bi_ H; obtain ⟨⟨q, r, s, t, u⟩, A3, H⟩ := H; (try dsimp only at H)
 replace H := bi_ H; obtain ⟨F, A4, H⟩ := H
 replace H := bi_ H; obtain ⟨⟨W, X, Y⟩, A5, H⟩ := H; (try dsimp only at H)
 simp only [Option.some.injEq, Prod.mk.injEq] at H
 obtain ⟨rfl, rfl, rfl, rfl⟩ := H
 go_enter Tryz.func10, Tryz.ntmps10
 try go_wp2_with (first | ((with_reducible refine gd_ 2 rfl ?_); refine bV_ 2 #[.int .i64 0, .int .i64 0, .slice none 0 0] 26 ?_; intro z hg w6 a hb; have pa := gq_ hg p; replace p := st_ p hb; clear hb hg) | ((with_reducible refine gate_callee (f := 50) rfl ?_); refine gl_ (some 7) Tryz.func50 #[.slice A0 L.length c0] ?_; (with_reducible refine (spec_l1New.calls k _ _ L o G I w _ ?_ ?_ ?_ A2.1).mono ?_); exact hs_ p.1; exact na.1; exact oa.1; rintro e w7 ⟨g798, rfl, hi, hb, hb2⟩; refine ⟨_, rfl, ?_⟩; replace p := M_ (hb); have b := M_ (hi); have M := Ne_.mk (IsS102.ne_blk hi (bb_ a.1 hb2) (by decide)); have O := Ne_.mk (Ne.symm (IsS102.ne_blk hi (bb_ a.1 hb2) (by decide))); replace a := M_ (bb_ a.1 hb2); (try clear hb); (try clear hb2); (try clear hi)) | ((with_reducible refine gate_callee (f := 51) rfl ?_); refine gl_ (some 9) Tryz.func51 #[.pointer (some ⟨g798, 0, none⟩), .int .i64 0, .int .i64 1] ?_; (with_reducible refine (spec_l7Any.calls k g798 o G I 0 1 q r s t u w _ ?_ ?_ A3.1).mono ?_); exact IsS102.pk_ b.1; exact hs_ p.1; rintro e w8 ⟨Ga, rfl, x, hi, hb, hk⟩; refine ⟨_, rfl, ?_⟩; replace a := kb_ hk a; have c := sw_ x p; replace p := M_ (hb); replace b := M_ (hi); (try clear hb); (try clear hb2); (try clear hk hi x)) | ((with_reducible refine gd_ 5 rfl ?_); refine bV_ 5 #[.int .i64 0, .int .i64 0, .slice none 0 0] 26 ?_; intro l hg w9 d hb; replace c := sb_ c hb; have qa := gq_ hg p; replace p := st_ p hb; obtain ⟨m, g, a⟩ := nb_ a hg hb; have D := Ne_.mk ((by rw [hg]; exact Nat.ne_of_lt (IsS102.lt (show IsS102 w _ g798 o t u from IsS102.pk_ b.1)) : g798 ≠ l)); replace b := IsS102.bk_ b hb; have E := ns_ D; clear hb hg; have ra := n2_ g; have sa := n2_ E; obtain ⟨ta, ua, va, wa, xa, ya⟩ := bc3_ d.1; obtain ⟨A, B, Z⟩ := Kd.S_slice c.1; subst Z))
 generalize hw_ : (((w9.setCell ⟨l, 0, none⟩ (.int .i64 q)).setCell ⟨l, 1, none⟩ (.int .i64 r)).setCell ⟨l, 2, none⟩ (.slice A s.length B)) = aa
 have ba := ws_ hw_ (Kd.S_mono (ok' := (fun _ => True)) (sy_ c.1 d.1) (fun _ hk => trivial))
 have ca : Aside0 (IsS102 w aa g798 o t u) := ⟨by rw [← hw_]; exact (IsS102.pk_ b.1)⟩
 replace a := wq_ hw_ a
 replace d := wp_ hw_ #[.int .i64 q, .int .i64 r, .slice A s.length B] d
 replace p := wb_ hw_ p
 clear hw_
 (try clear c b)
 have c := ba
 have b := ca
 clear ba ca
 obtain ⟨c, a, d⟩ := y3_ c a d
 replace b := M_ (IsS102.drew b.1)
 replace p := db_ p
 refine start_ (n := 7) (S := fun w' => c_ w' l 0 (.int .i64 q) ∧ c_ w' l 1 (.int .i64 r) ∧ c_ w' l 2 (.slice A s.length B)) (ds := []) (b_ 0 7) (by kernel_rfl) rfl rfl (e3_ d.1) (fun j => ?_)
 generalize aa.drew = Ra at c a d b p j ⊢
 refine pure_ (i := 1) (N := some 11) (v := ?_) (a' := ?_) #[f_,t_,f_,f_,f_,f_,f_] rfl rfl (by kernel_rfl) (fun _ _ _ h => h) (Or.inl ⟨by rfl, ?_⟩) ?_ ?_
 rotate_left
 ·
  intro w'
  go_simp
  with_reducible rfl
 rotate_left
 ·
  simp only [fr_]
  rfl
 refine take_ (i := 0) (N := some 10) (v := ?_) (a' := ?_) (b_ 2 5) rfl rfl (by kernel_rfl) (fun _ _ _ h => h) (Or.inl ⟨by rfl, ?_⟩) j ?_ ?_
 rotate_left
 ·
  rintro w' ⟨s0, s1, s2⟩
  go_simp
  with_reducible rfl
 rotate_left
 ·
  simp only [fr_]
  rfl
 refine take_ (i := 2) (N := some 12) (v := ?_) (a' := ?_) (b_ 3 4) rfl rfl (by kernel_rfl) (fun _ _ _ h => h) (Or.inl ⟨by rfl, ?_⟩) j ?_ ?_
 rotate_left
 ·
  rintro w' ⟨s0, s1, s2⟩
  go_simp
  with_reducible rfl
 rotate_left
 ·
  simp only [fr_]
  rfl
 refine one_ (i := 3) (N := some 13) (b_ 4 3) rfl rfl (by kernel_rfl) (by decide) (fun K T => ?_)
 refine gs_ Tryz.func27 #[.agg #[.int .i64 q, .int .i64 r, .slice A s.length B]] ?_
 with_reducible refine (spec_AlarmsIn.calls k q r _ _ s F _ ?_ ?_ A4.1).mono ?_
 exact cp_ ((Kd.S_reads' c.1).2.2)
 exact (Kd.S_reads' c.1).2.1
 rintro e Sa ⟨Ha, rfl, x, hb⟩
 refine ⟨_, rfl, ?_⟩
 replace c := M_ (Kd.S_elder' (sp_ c.1) (Kd.S_base x) hb)
 have y := sw_ x p
 replace a := bk2_ a hb
 replace b := IsS102.bk_ b hb
 obtain ⟨d, p⟩ := u2_ hb d p
 (try clear hb)
 (try clear hb2)
 (try clear x)
 obtain ⟨da, ea, J⟩ := Kd.S_slice y.1
 (first | subst J | (obtain ⟨rfl, rfl⟩ := si_ J))
 refine ho_ T (e3_ d.1) (fun j => ?_)
 refine one_ (i := 4) (N := some 14) (b_ 5 2) rfl rfl (by kernel_rfl) (by decide) (fun K T => ?_)
 refine gs_ Tryz.func53 #[.pointer (some ⟨g798, 0, none⟩), .slice da F.length ea] ?_
 with_reducible refine (spec_l7Labels.calls k g798 o t u _ _ F W X Y w _ ?_ ?_ ?_ ?_ A5.1).mono ?_
 exact IsS102.pk_ b.1
 exact hs_ p.1
 exact Kd.C_foot_own ((Kd.S_R (IsS102.apartS (show IsS102 w _ g798 o t u from IsS102.pk_ b.1) (sp_ y.1) (by decide)))) (fun _ h_ => h_.2)
 exact (Kd.S_reads' y.1).2.1
 rintro e P ⟨Ia, rfl, x, hi, hb, hk⟩
 refine ⟨_, rfl, ?_⟩
 replace a := kb_ hk a
 replace c := M_ (Kd.S_mono (Kd.S_told (Kd.S_oldK (IsS102.apartS (show IsS102 w _ g798 o t u from IsS102.pk_ b.1) (sp_ c.1) (by decide)) hk) (Kd.R_base x)) (fun _ h_ => h_.1))
 replace d := kb_ hk d
 replace y := M_ (Kd.S_mono (Kd.S_told (Kd.S_oldK (IsS102.apartS (show IsS102 w _ g798 o t u from IsS102.pk_ b.1) (sp_ y.1) (by decide)) hk) (Kd.R_base x)) (fun _ h_ => h_.1))
 have Q := rw_ x p
 replace p := M_ (hb)
 replace b := M_ (hi)
 (try clear hb)
 (try clear hb2)
 (try clear hk hi x)
 refine ho_ T (e3_ d.1) (fun j => ?_)
 refine one_ (i := 5) (N := none) (b_ 6 1) rfl rfl (by kernel_rfl) (by decide) (fun K T => ?_)
 have Ja : P.cell? ⟨z, 0, none⟩ = some (.int .i64 0) := bx_ a.1 0
 have za := blk_frozen a.1 0
 have fa := g.1
 have ga := m.1
 have Ka : P.cell? ⟨z, 1, none⟩ = some (.int .i64 0) := bx_ a.1 1
 have Aa := blk_frozen a.1 1
 have ha := g.1
 have ia := m.1
 have La : P.cell? ⟨z, 2, none⟩ = some (.slice none 0 0) := bx_ a.1 2
 have Ba := blk_frozen a.1 2
 have ja := g.1
 have ka := m.1
 refine skip_ (w1 := ?_) (by rfl) rfl ?_ ?_
 rotate_left
 ·
  go_simp
  rfl
 refine T.out _ _ ⟨(cg_ (j.1)), (cg_ (j.2.1)), (cg_ (j.2.2))⟩ (fun j => ?_)
 clear T K
 refine pure_ (i := 6) (N := some 3) (v := ?_) (a' := ?_) (b_ 7 0) rfl rfl (by kernel_rfl) (fun _ _ _ h => h) (Or.inl ⟨by rfl, ?_⟩) ?_ ?_
 rotate_left
 ·
  intro w'
  go_simp
  with_reducible rfl
 rotate_left
 ·
  simp only [fr_]
  rfl
 refine done_ (by kernel_rfl) ?_
 try go_wp2
 refine bodyPost_ret (results_ct rfl _ _ z 26 #[.int .i64 q, .int .i64 r, .slice A s.length B] (0, 0) _ rfl (bp_ a.1) Tryz.underlying26 rfl (by kernel_rfl)) rfl ?_
 exact ⟨_, _, rr_, Kd.S_mono (sy_ c.1 a.1) (fun _ hk => hk.2), Kd.R_mono (ry_ Q.1 a.1) (fun _ hk => trivial), hs_ p.1⟩
def impl_FindIn.f (k : Nat) (e : Int) (g : Int) (b : List (S80)) (i : List (S99)) : Option ((List (S99)) × Int × Int × ByteArray × Bool) := (impl_Finger.f k i).bind fun h => ((impl_chainOf.f k e g b h).bind fun a => (if a < 0 then (some (([] : List (S99)), 0, 0, (⟨#[]⟩ : ByteArray), false)) else (if 0 ≤ a then (if a < (b.length : Int) then ((impl_InChain.f k ((rd_T80 b a).f0) ((rd_T80 b a).f1) i).bind fun c => (if c < 0 then (some (([] : List (S99)), 0, 0, (⟨#[]⟩ : ByteArray), false)) else (if 0 ≤ c then (if c < (((rd_T80 b a).f1).length : Int) then ((impl_copyAlarm.f ((rd_T29 ((rd_T80 b a).f1) c).f0) ((rd_T29 ((rd_T80 b a).f1) c).f1) ((rd_T29 ((rd_T80 b a).f1) c).f2) ((rd_T29 ((rd_T80 b a).f1) c).f3)).bind fun d => (some (d.1, d.2.1, d.2.2.1, d.2.2.2, true))) else (none)) else (none)))) else (none)) else (none))))
theorem impl_FindIn.calls (k : Nat) (p : Int) (q : Int) (x : Option Addr) (y : Nat) (b : List (S80)) (A1 : Option Addr) (c1 : Nat) (T : List (S99)) (r1 : List (S99)) (r2 : Int) (r3 : Int) (r4 : ByteArray) (r5 : Bool) (w : World) (U : Kd.C k80 w x b.length b) (V : b.length ≤ y) (Da : Kd.C k99 w A1 T.length T) (Ea : T.length ≤ c1) (h : impl_FindIn.f k p q b T = some (r1, r2, r3, r4, r5)) :
  Calls Tryz.prog 11 #[.agg #[.int .i64 p, .int .i64 q, .slice x b.length y], .slice A1 T.length c1] w fun e w' => ∃ v0_ : Value, e = .returned (.tuple #[.agg #[v0_, .int .i64 r2, .int .i64 r3, .string r4], .bool r5]) ∧ Kd.R k99 99 w' w.heap.size (fun _ => True) v0_ r1 ∧ Below w.heap.size w w' := by
 have hu26 := Tryz.underlying26
 have hu29 := Tryz.underlying29
 have hu80 := Tryz.underlying80
 have r := M_ U
 have ra := M_ V
 clear U V
 have sa := M_ Da
 have ta := M_ Ea
 clear Da Ea
 have j := M_ (Below.refl w.heap.size w)
 unfold impl_FindIn.f at h
 have H := h; clear h
 replace H := bi_ H; obtain ⟨W, A3, H⟩ := H
 replace H := bi_ H; obtain ⟨d, A4, H⟩ := H
 have AHz_ := M_ H
 clear H
 go_enter Tryz.func11, Tryz.ntmps11
 try go_wp2_with (first | ((with_reducible refine gd_ 2 rfl ?_); refine bV_ 2 #[.int .i64 p, .int .i64 q, .slice x b.length y] 26 ?_; intro M hg w6 a hb; have Sa := gq_ hg j; replace j := st_ j hb; clear hb hg) | ((with_reducible refine gd_ 4 rfl ?_); refine bV_ 4 #[.slice none 0 0, .int .i64 0, .int .i64 0, .string (⟨#[]⟩ : ByteArray)] 29 ?_; intro O hg w7 c hb; have Ta := gq_ hg j; replace j := st_ j hb; obtain ⟨l, P, a⟩ := nb_ a hg hb; clear hb hg))
 obtain ⟨a, c, j⟩ := y3_ a c j
 refine start_ (n := 5) (S := fun w' => c_ w' M 0 (.int .i64 p) ∧ c_ w' M 1 (.int .i64 q) ∧ c_ w' M 2 (.slice x b.length y)) (ds := []) (b_ 0 5) (by kernel_rfl) rfl rfl (e3_ a.1) (fun s => ?_)
 generalize w7.drew = w8 at a c j s ⊢
 refine pure_ (i := 1) (N := some 9) (v := ?_) (a' := ?_) #[f_,t_,f_,f_,f_] rfl rfl (by kernel_rfl) (fun _ _ _ h => h) (Or.inl ⟨by rfl, ?_⟩) ?_ ?_
 rotate_left
 ·
  intro w'
  go_simp
  with_reducible rfl
 rotate_left
 ·
  simp only [fr_]
  rfl
 refine take_ (i := 0) (N := some 8) (v := ?_) (a' := ?_) (b_ 2 3) rfl rfl (by kernel_rfl) (fun _ _ _ h => h) (Or.inl ⟨by rfl, ?_⟩) s ?_ ?_
 rotate_left
 ·
  rintro w' ⟨s0, s1, s2⟩
  go_simp
  with_reducible rfl
 rotate_left
 ·
  simp only [fr_]
  rfl
 refine one_ (i := 2) (N := some 10) (b_ 3 2) rfl rfl (by kernel_rfl) (by decide) (fun K hK => ?_)
 refine gs_ Tryz.func55 #[.slice A1 T.length c1] ?_
 with_reducible refine (impl_Finger.calls k _ _ T W _ ?_ ?_ A3.1).mono ?_
 exact cp_ ((Kd.C_below sa.1 j.1))
 exact ta.1
 rintro e w9 ⟨rfl, hb⟩
 refine ⟨_, rfl, ?_⟩
 obtain ⟨a, c, j⟩ := u3_ hb a c j
 (try clear hb)
 refine ho_ hK (e3_ a.1) (fun s => ?_)
 refine one_ (i := 3) (N := some 11) (b_ 4 1) rfl rfl (by kernel_rfl) (by decide) (fun K hK => ?_)
 refine gs_ Tryz.func56 #[.agg #[.int .i64 p, .int .i64 q, .slice x b.length y], .int .i64 W] ?_
 with_reducible refine (impl_chainOf.calls k p q _ _ b W d _ ?_ ?_ A4.1).mono ?_
 exact cp_ ((Kd.C_below r.1 j.1))
 exact ra.1
 rintro e ac ⟨rfl, hb⟩
 refine ⟨_, rfl, ?_⟩
 obtain ⟨a, c, j⟩ := u3_ hb a c j
 (try clear hb)
 refine ho_ hK (e3_ a.1) (fun s => ?_)
 refine pure_ (i := 4) (N := some 6) (v := ?_) (a' := ?_) #[t_,t_,t_,t_,t_] rfl rfl (by kernel_rfl) (fun _ _ _ h => h) (Or.inl ⟨by rfl, ?_⟩) ?_ ?_
 rotate_left
 ·
  intro w'
  go_simp
  with_reducible rfl
 rotate_left
 ·
  simp only [fr_]
  rfl
 have H := AHz_.1
 clear AHz_
 replace H := ie_ H; rcases H with ⟨c5, H⟩ | ⟨c5, H⟩
 ·
  have X := decide_eq_true c5
  clear c5
  simp only [Option.some.injEq, Prod.mk.injEq] at H
  obtain ⟨rfl, rfl, rfl, rfl, rfl⟩ := H
  (try simp only [X])
  refine done_ (by kernel_rfl) ?_
  have Va := n2_ P
  obtain ⟨Wa, Xa, Ya, Za, ab, bb, cb, db⟩ := bc4_ c.1
  try go_wp2
  refine bodyPost_ret (results_ct rfl _ _ O 29 #[.slice none 0 0, .int .i64 0, .int .i64 0, .string (⟨#[]⟩ : ByteArray)] (0, 0) _ rfl (bp_ c.1) Tryz.underlying29 rfl (by kernel_rfl)) rfl ?_
  exact ⟨_, rr_, by first | exact Kd.R_nil _ _ _ _ _ | exact Kd.N_nil _ _ _ _ _ | exact Kd.V_nil _ _ _ _ _ | exact Kd.Q_nil _ _ _ _ _ | exact Kd.S_nil _ _ _ _ _, hs_ j.1⟩
 have X : decide (d < 0) = false := decide_eq_false c5
 clear c5
 (try simp only [X])
 replace H := id_ H; obtain ⟨ua, H⟩ := H
 (try simp only [ua])
 replace H := id_ H; obtain ⟨va, H⟩ := H
 replace H := bi_ H; obtain ⟨g, Ga, H⟩ := H
 (try simp only [va])
 replace H := ie_ H; rcases H with ⟨Y, H⟩ | ⟨Y, H⟩
 ·
  have Q := decide_eq_true Y
  clear Y
  simp only [Option.some.injEq, Prod.mk.injEq] at H
  obtain ⟨rfl, rfl, rfl, rfl, rfl⟩ := H
  (try simp only [Q])
  refine done_ (by kernel_rfl) ?_
  have eb := n2_ l
  obtain ⟨fb, gb, ib, jb, kb, lb⟩ := bc3_ a.1
  obtain ⟨Z, t, u, aa, ba, ca, m, o, Ha, Ia⟩ := au_T80 r.1 j d
  cases aa
  try go_wp2_with (first | ((with_reducible refine gate_callee (f := 64) rfl ?_); refine gl_ (some 21) Tryz.func64 #[.agg #[.int .i64 ((rd_T80 b d).f0), .slice t ((rd_T80 b d).f1).length u], .slice A1 T.length c1] ?_; (with_reducible refine (impl_InChain.calls k ((rd_T80 b d).f0) _ _ ((rd_T80 b d).f1) _ _ T g _ ?_ ?_ ?_ ?_ Ga.1).mono ?_); exact cp_ ((Kd.C_below o.1 j.1)); exact m.1; exact cp_ ((Kd.C_below sa.1 j.1)); exact ta.1; rintro e bc ⟨rfl, hb⟩; refine ⟨_, rfl, ?_⟩; obtain ⟨a, c, j⟩ := u3_ hb a c j; (try clear hb); obtain ⟨mb, nb, ob, pb, qb, rb, sb, tb⟩ := bc4_ c.1))
  refine bodyPost_ret (results_ct rfl _ _ O 29 #[.slice none 0 0, .int .i64 0, .int .i64 0, .string (⟨#[]⟩ : ByteArray)] (0, 0) _ rfl (bp_ c.1) Tryz.underlying29 rfl (by kernel_rfl)) rfl ?_
  exact ⟨_, rr_, by first | exact Kd.R_nil _ _ _ _ _ | exact Kd.N_nil _ _ _ _ _ | exact Kd.V_nil _ _ _ _ _ | exact Kd.Q_nil _ _ _ _ _ | exact Kd.S_nil _ _ _ _ _, hs_ j.1⟩
 have Q : decide (g < 0) = false := decide_eq_false Y
 clear Y
 (try simp only [Q])
 replace H := id_ H; obtain ⟨wa, H⟩ := H
 (try simp only [wa])
 replace H := id_ H; obtain ⟨xa, H⟩ := H
 replace H := bi_ H; obtain ⟨⟨na, oa, pa, qa⟩, ub, H⟩ := H; (try dsimp only at H)
 simp only [Option.some.injEq, Prod.mk.injEq] at H
 obtain ⟨rfl, rfl, rfl, rfl, rfl⟩ := H
 (try simp only [xa])
 refine done_ (by kernel_rfl) ?_
 have vb := n2_ l
 obtain ⟨wb, xb, yb, zb, Ab, Bb⟩ := bc3_ a.1
 obtain ⟨Z, t, u, aa, ba, ca, m, o, Ha, Ia⟩ := au_T80 r.1 j d
 cases aa
 try go_wp2_with (first | ((with_reducible refine gate_callee (f := 64) rfl ?_); refine gl_ (some 21) Tryz.func64 #[.agg #[.int .i64 ((rd_T80 b d).f0), .slice t ((rd_T80 b d).f1).length u], .slice A1 T.length c1] ?_; (with_reducible refine (impl_InChain.calls k ((rd_T80 b d).f0) _ _ ((rd_T80 b d).f1) _ _ T g _ ?_ ?_ ?_ ?_ Ga.1).mono ?_); exact cp_ ((Kd.C_below o.1 j.1)); exact m.1; exact cp_ ((Kd.C_below sa.1 j.1)); exact ta.1; rintro e cc ⟨rfl, hb⟩; refine ⟨_, rfl, ?_⟩; obtain ⟨a, c, j⟩ := u3_ hb a c j; (try clear hb); obtain ⟨Cb, Db, Eb, Fb, Gb, Hb⟩ := bc3_ a.1; have da : 0 ≤ (d : Int) := of_decide_eq_true (by with_reducible assumption); have ea : d < (b.length : Int) := of_decide_eq_true (by with_reducible assumption); obtain ⟨ya, Pa, Qa, Ja, z, A, B, D⟩ := at_T80 r.1 d da ea; obtain rfl : Z = ya := (by injection Ja); replace z := cl_ j.1 z; replace A := cl_ j.1 A; have fa := M_ D; have Ka := M_ B; clear D B; replace da := eq_true da; replace ea := eq_true ea; have ga : 0 ≤ (g : Int) := of_decide_eq_true (by with_reducible assumption); have ha : g < (((rd_T80 b d).f1).length : Int) := of_decide_eq_true (by with_reducible assumption); obtain ⟨Ib, la, ma, La, E, F, G, I, J, L⟩ := at_T29 fa.1 g ga ha; cases La; replace E := cl_ j.1 E; replace F := cl_ j.1 F; replace G := cl_ j.1 G; replace I := cl_ j.1 I; have ia := M_ L; have ja := M_ J; clear L J; replace ga := eq_true ga; replace ha := eq_true ha) | ((with_reducible refine gate_callee (f := 58) rfl ?_); refine gl_ (some 34) Tryz.func58 #[.agg #[.slice la ((rd_T29 ((rd_T80 b d).f1) g).f0).length ma, .int .i64 ((rd_T29 ((rd_T80 b d).f1) g).f1), .int .i64 ((rd_T29 ((rd_T80 b d).f1) g).f2), .string ((rd_T29 ((rd_T80 b d).f1) g).f3)]] ?_; (with_reducible refine (impl_copyAlarm.calls _ _ ((rd_T29 ((rd_T80 b d).f1) g).f0) ((rd_T29 ((rd_T80 b d).f1) g).f1) ((rd_T29 ((rd_T80 b d).f1) g).f2) ((rd_T29 ((rd_T80 b d).f1) g).f3) na oa pa qa _ ?_ ?_ ub.1).mono ?_); exact cp_ ((Kd.C_below ia.1 j.1)); exact ja.1; rintro e dc ⟨Wb, rfl, za, hb⟩; refine ⟨_, rfl, ?_⟩; obtain ⟨Ra, Aa⟩ := Kd.R_name za; have ka := rg_ Aa za j; obtain ⟨a, c, j⟩ := u3_ hb a c j; (try clear hb za); obtain ⟨Ma, Na, Oa⟩ := Kd.R_slice ka.1; subst Oa; obtain ⟨Jb, Kb, Lb, Mb, Nb, Ob, Pb, Qb⟩ := bc4_ c.1))
 refine bodyPost_ret (results_ct rfl _ _ O 29 #[.slice Ma na.length Na, .int .i64 oa, .int .i64 pa, .string qa] (0, 0) _ rfl (bp_ c.1) Tryz.underlying29 rfl (by kernel_rfl)) rfl ?_
 exact ⟨_, rr_, Kd.R_mono (ry_ ka.1 c.1) (fun _ hk => trivial), hs_ j.1⟩
def spec_FindIn.f (k : Nat) (e : Int) (g : Int) (b : List (S80)) (i : List (S99)) : Option ((List (S99)) × Int × Int × ByteArray × Bool) := (spec_Finger.f k i).bind fun h => ((spec_l7At.f k e g b h).bind fun a => (if a < 0 then (some (([] : List (S99)), 0, 0, (⟨#[]⟩ : ByteArray), false)) else (if 0 ≤ a then (if a < (b.length : Int) then ((spec_InChain.f k ((rd_T80 b a).f0) ((rd_T80 b a).f1) i).bind fun c => (if c < 0 then (some (([] : List (S99)), 0, 0, (⟨#[]⟩ : ByteArray), false)) else (if 0 ≤ c then (if c < (((rd_T80 b a).f1).length : Int) then ((spec_l4Copy.f ((rd_T29 ((rd_T80 b a).f1) c).f0) ((rd_T29 ((rd_T80 b a).f1) c).f1) ((rd_T29 ((rd_T80 b a).f1) c).f2) ((rd_T29 ((rd_T80 b a).f1) c).f3)).bind fun d => (some (d.1, d.2.1, d.2.2.1, d.2.2.2, true))) else (none)) else (none)))) else (none)) else (none))))
theorem spec_FindIn.calls (k : Nat) (p : Int) (q : Int) (x : Option Addr) (y : Nat) (b : List (S80)) (A1 : Option Addr) (c1 : Nat) (T : List (S99)) (r1 : List (S99)) (r2 : Int) (r3 : Int) (r4 : ByteArray) (r5 : Bool) (w : World) (U : Kd.C k80 w x b.length b) (V : b.length ≤ y) (Da : Kd.C k99 w A1 T.length T) (Ea : T.length ≤ c1) (h : spec_FindIn.f k p q b T = some (r1, r2, r3, r4, r5)) :
  Calls Tryz.prog 12 #[.agg #[.int .i64 p, .int .i64 q, .slice x b.length y], .slice A1 T.length c1] w fun e w' => ∃ v0_ : Value, e = .returned (.tuple #[.agg #[v0_, .int .i64 r2, .int .i64 r3, .string r4], .bool r5]) ∧ Kd.R k99 99 w' w.heap.size (fun _ => True) v0_ r1 ∧ Below w.heap.size w w' := by
 have hu26 := Tryz.underlying26
 have hu29 := Tryz.underlying29
 have hu80 := Tryz.underlying80
 have r := M_ U
 have ra := M_ V
 clear U V
 have sa := M_ Da
 have ta := M_ Ea
 clear Da Ea
 have j := M_ (Below.refl w.heap.size w)
 unfold spec_FindIn.f at h
 have H := h; clear h
 replace H := bi_ H; obtain ⟨W, A3, H⟩ := H
 replace H := bi_ H; obtain ⟨d, A4, H⟩ := H
 have AHz_ := M_ H
 clear H
 go_enter Tryz.func12, Tryz.ntmps12
 try go_wp2_with (first | ((with_reducible refine gd_ 2 rfl ?_); refine bV_ 2 #[.int .i64 p, .int .i64 q, .slice x b.length y] 26 ?_; intro M hg w6 a hb; have Sa := gq_ hg j; replace j := st_ j hb; clear hb hg) | ((with_reducible refine gd_ 4 rfl ?_); refine bV_ 4 #[.slice none 0 0, .int .i64 0, .int .i64 0, .string (⟨#[]⟩ : ByteArray)] 29 ?_; intro O hg w7 c hb; have Ta := gq_ hg j; replace j := st_ j hb; obtain ⟨l, P, a⟩ := nb_ a hg hb; clear hb hg))
 obtain ⟨a, c, j⟩ := y3_ a c j
 refine start_ (n := 5) (S := fun w' => c_ w' M 0 (.int .i64 p) ∧ c_ w' M 1 (.int .i64 q) ∧ c_ w' M 2 (.slice x b.length y)) (ds := []) (b_ 0 5) (by kernel_rfl) rfl rfl (e3_ a.1) (fun s => ?_)
 generalize w7.drew = w8 at a c j s ⊢
 refine pure_ (i := 1) (N := some 9) (v := ?_) (a' := ?_) #[f_,t_,f_,f_,f_] rfl rfl (by kernel_rfl) (fun _ _ _ h => h) (Or.inl ⟨by rfl, ?_⟩) ?_ ?_
 rotate_left
 ·
  intro w'
  go_simp
  with_reducible rfl
 rotate_left
 ·
  simp only [fr_]
  rfl
 refine take_ (i := 0) (N := some 8) (v := ?_) (a' := ?_) (b_ 2 3) rfl rfl (by kernel_rfl) (fun _ _ _ h => h) (Or.inl ⟨by rfl, ?_⟩) s ?_ ?_
 rotate_left
 ·
  rintro w' ⟨s0, s1, s2⟩
  go_simp
  with_reducible rfl
 rotate_left
 ·
  simp only [fr_]
  rfl
 refine one_ (i := 2) (N := some 10) (b_ 3 2) rfl rfl (by kernel_rfl) (by decide) (fun K hK => ?_)
 refine gs_ Tryz.func60 #[.slice A1 T.length c1] ?_
 with_reducible refine (spec_Finger.calls k _ _ T W _ ?_ ?_ A3.1).mono ?_
 exact cp_ ((Kd.C_below sa.1 j.1))
 exact ta.1
 rintro e w9 ⟨rfl, hb⟩
 refine ⟨_, rfl, ?_⟩
 obtain ⟨a, c, j⟩ := u3_ hb a c j
 (try clear hb)
 refine ho_ hK (e3_ a.1) (fun s => ?_)
 refine one_ (i := 3) (N := some 11) (b_ 4 1) rfl rfl (by kernel_rfl) (by decide) (fun K hK => ?_)
 refine gs_ Tryz.func61 #[.agg #[.int .i64 p, .int .i64 q, .slice x b.length y], .int .i64 W] ?_
 with_reducible refine (spec_l7At.calls k p q _ _ b W d _ ?_ ?_ A4.1).mono ?_
 exact cp_ ((Kd.C_below r.1 j.1))
 exact ra.1
 rintro e ac ⟨rfl, hb⟩
 refine ⟨_, rfl, ?_⟩
 obtain ⟨a, c, j⟩ := u3_ hb a c j
 (try clear hb)
 refine ho_ hK (e3_ a.1) (fun s => ?_)
 refine pure_ (i := 4) (N := some 6) (v := ?_) (a' := ?_) #[t_,t_,t_,t_,t_] rfl rfl (by kernel_rfl) (fun _ _ _ h => h) (Or.inl ⟨by rfl, ?_⟩) ?_ ?_
 rotate_left
 ·
  intro w'
  go_simp
  with_reducible rfl
 rotate_left
 ·
  simp only [fr_]
  rfl
 have H := AHz_.1
 clear AHz_
 replace H := ie_ H; rcases H with ⟨c5, H⟩ | ⟨c5, H⟩
 ·
  have X := decide_eq_true c5
  clear c5
  simp only [Option.some.injEq, Prod.mk.injEq] at H
  obtain ⟨rfl, rfl, rfl, rfl, rfl⟩ := H
  (try simp only [X])
  refine done_ (by kernel_rfl) ?_
  have Va := n2_ P
  obtain ⟨Wa, Xa, Ya, Za, ab, bb, cb, db⟩ := bc4_ c.1
  try go_wp2
  refine bodyPost_ret (results_ct rfl _ _ O 29 #[.slice none 0 0, .int .i64 0, .int .i64 0, .string (⟨#[]⟩ : ByteArray)] (0, 0) _ rfl (bp_ c.1) Tryz.underlying29 rfl (by kernel_rfl)) rfl ?_
  exact ⟨_, rr_, by first | exact Kd.R_nil _ _ _ _ _ | exact Kd.N_nil _ _ _ _ _ | exact Kd.V_nil _ _ _ _ _ | exact Kd.Q_nil _ _ _ _ _ | exact Kd.S_nil _ _ _ _ _, hs_ j.1⟩
 have X : decide (d < 0) = false := decide_eq_false c5
 clear c5
 (try simp only [X])
 replace H := id_ H; obtain ⟨ua, H⟩ := H
 (try simp only [ua])
 replace H := id_ H; obtain ⟨va, H⟩ := H
 replace H := bi_ H; obtain ⟨g, Ga, H⟩ := H
 (try simp only [va])
 replace H := ie_ H; rcases H with ⟨Y, H⟩ | ⟨Y, H⟩
 ·
  have Q := decide_eq_true Y
  clear Y
  simp only [Option.some.injEq, Prod.mk.injEq] at H
  obtain ⟨rfl, rfl, rfl, rfl, rfl⟩ := H
  (try simp only [Q])
  refine done_ (by kernel_rfl) ?_
  have eb := n2_ l
  obtain ⟨fb, gb, ib, jb, kb, lb⟩ := bc3_ a.1
  obtain ⟨Z, t, u, aa, ba, ca, m, o, Ha, Ia⟩ := au_T80 r.1 j d
  cases aa
  try go_wp2_with (first | ((with_reducible refine gate_callee (f := 65) rfl ?_); refine gl_ (some 21) Tryz.func65 #[.agg #[.int .i64 ((rd_T80 b d).f0), .slice t ((rd_T80 b d).f1).length u], .slice A1 T.length c1] ?_; (with_reducible refine (spec_InChain.calls k ((rd_T80 b d).f0) _ _ ((rd_T80 b d).f1) _ _ T g _ ?_ ?_ ?_ ?_ Ga.1).mono ?_); exact cp_ ((Kd.C_below o.1 j.1)); exact m.1; exact cp_ ((Kd.C_below sa.1 j.1)); exact ta.1; rintro e bc ⟨rfl, hb⟩; refine ⟨_, rfl, ?_⟩; obtain ⟨a, c, j⟩ := u3_ hb a c j; (try clear hb); obtain ⟨mb, nb, ob, pb, qb, rb, sb, tb⟩ := bc4_ c.1))
  refine bodyPost_ret (results_ct rfl _ _ O 29 #[.slice none 0 0, .int .i64 0, .int .i64 0, .string (⟨#[]⟩ : ByteArray)] (0, 0) _ rfl (bp_ c.1) Tryz.underlying29 rfl (by kernel_rfl)) rfl ?_
  exact ⟨_, rr_, by first | exact Kd.R_nil _ _ _ _ _ | exact Kd.N_nil _ _ _ _ _ | exact Kd.V_nil _ _ _ _ _ | exact Kd.Q_nil _ _ _ _ _ | exact Kd.S_nil _ _ _ _ _, hs_ j.1⟩
 have Q : decide (g < 0) = false := decide_eq_false Y
 clear Y
 (try simp only [Q])
 replace H := id_ H; obtain ⟨wa, H⟩ := H
 (try simp only [wa])
 replace H := id_ H; obtain ⟨xa, H⟩ := H
 replace H := bi_ H; obtain ⟨⟨na, oa, pa, qa⟩, ub, H⟩ := H; (try dsimp only at H)
 simp only [Option.some.injEq, Prod.mk.injEq] at H
 obtain ⟨rfl, rfl, rfl, rfl, rfl⟩ := H
 (try simp only [xa])
 refine done_ (by kernel_rfl) ?_
 have vb := n2_ l
 obtain ⟨wb, xb, yb, zb, Ab, Bb⟩ := bc3_ a.1
 obtain ⟨Z, t, u, aa, ba, ca, m, o, Ha, Ia⟩ := au_T80 r.1 j d
 cases aa
 try go_wp2_with (first | ((with_reducible refine gate_callee (f := 65) rfl ?_); refine gl_ (some 21) Tryz.func65 #[.agg #[.int .i64 ((rd_T80 b d).f0), .slice t ((rd_T80 b d).f1).length u], .slice A1 T.length c1] ?_; (with_reducible refine (spec_InChain.calls k ((rd_T80 b d).f0) _ _ ((rd_T80 b d).f1) _ _ T g _ ?_ ?_ ?_ ?_ Ga.1).mono ?_); exact cp_ ((Kd.C_below o.1 j.1)); exact m.1; exact cp_ ((Kd.C_below sa.1 j.1)); exact ta.1; rintro e cc ⟨rfl, hb⟩; refine ⟨_, rfl, ?_⟩; obtain ⟨a, c, j⟩ := u3_ hb a c j; (try clear hb); obtain ⟨Cb, Db, Eb, Fb, Gb, Hb⟩ := bc3_ a.1; have da : 0 ≤ (d : Int) := of_decide_eq_true (by with_reducible assumption); have ea : d < (b.length : Int) := of_decide_eq_true (by with_reducible assumption); obtain ⟨ya, Pa, Qa, Ja, z, A, B, D⟩ := at_T80 r.1 d da ea; obtain rfl : Z = ya := (by injection Ja); replace z := cl_ j.1 z; replace A := cl_ j.1 A; have fa := M_ D; have Ka := M_ B; clear D B; replace da := eq_true da; replace ea := eq_true ea; have ga : 0 ≤ (g : Int) := of_decide_eq_true (by with_reducible assumption); have ha : g < (((rd_T80 b d).f1).length : Int) := of_decide_eq_true (by with_reducible assumption); obtain ⟨Ib, la, ma, La, E, F, G, I, J, L⟩ := at_T29 fa.1 g ga ha; cases La; replace E := cl_ j.1 E; replace F := cl_ j.1 F; replace G := cl_ j.1 G; replace I := cl_ j.1 I; have ia := M_ L; have ja := M_ J; clear L J; replace ga := eq_true ga; replace ha := eq_true ha) | ((with_reducible refine gate_callee (f := 63) rfl ?_); refine gl_ (some 34) Tryz.func63 #[.agg #[.slice la ((rd_T29 ((rd_T80 b d).f1) g).f0).length ma, .int .i64 ((rd_T29 ((rd_T80 b d).f1) g).f1), .int .i64 ((rd_T29 ((rd_T80 b d).f1) g).f2), .string ((rd_T29 ((rd_T80 b d).f1) g).f3)]] ?_; (with_reducible refine (spec_l4Copy.calls _ _ ((rd_T29 ((rd_T80 b d).f1) g).f0) ((rd_T29 ((rd_T80 b d).f1) g).f1) ((rd_T29 ((rd_T80 b d).f1) g).f2) ((rd_T29 ((rd_T80 b d).f1) g).f3) na oa pa qa _ ?_ ?_ ub.1).mono ?_); exact cp_ ((Kd.C_below ia.1 j.1)); exact ja.1; rintro e dc ⟨Wb, rfl, za, hb⟩; refine ⟨_, rfl, ?_⟩; obtain ⟨Ra, Aa⟩ := Kd.R_name za; have ka := rg_ Aa za j; obtain ⟨a, c, j⟩ := u3_ hb a c j; (try clear hb za); obtain ⟨Ma, Na, Oa⟩ := Kd.R_slice ka.1; subst Oa; obtain ⟨Jb, Kb, Lb, Mb, Nb, Ob, Pb, Qb⟩ := bc4_ c.1))
 refine bodyPost_ret (results_ct rfl _ _ O 29 #[.slice Ma na.length Na, .int .i64 oa, .int .i64 pa, .string qa] (0, 0) _ rfl (bp_ c.1) Tryz.underlying29 rfl (by kernel_rfl)) rfl ?_
 exact ⟨_, rr_, Kd.R_mono (ry_ ka.1 c.1) (fun _ hk => trivial), hs_ j.1⟩
def spec_DrawSweepIn.f (k : Nat) (d : List Int) : Option (Int × Int × (List (S80)) × Int) := (spec_l1New.f k d).bind fun b => ((spec_l7Any.f k b.1 b.2.1 b.2.2 0 1).bind fun a => ((spec_l1Int.f b.1 a.2.2.2.1 a.2.2.2.2 (([0, 3, 8, 12, 30, 100] : List Int))).bind fun c => (some (a.1, a.2.1, a.2.2.1, c.1))))
theorem spec_DrawSweepIn.calls (k : Nat) (Q : Option Addr) (R : Nat) (v : List Int) (T : Int) (U : Int) (V : List (S80)) (W : Int) (w : World) (A : Kd.C (Kd.int .u8) w Q v.length v) (B : v.length ≤ R) (h : spec_DrawSweepIn.f k v = some (T, U, V, W)) :
  Calls Tryz.prog 13 #[.slice Q v.length R] w fun e w' => ∃ v2_ : Value, e = .returned (.tuple #[.agg #[.int .i64 T, .int .i64 U, v2_], .int .i64 W]) ∧ Kd.S k80 80 w' w.heap.size (fun _ => True) v2_ V ∧ Below w.heap.size w w' := by
 have hu26 := Tryz.underlying26
 have X := M_ A
 have Y := M_ B
 clear A B
 have m := M_ (Below.refl w.heap.size w)
 unfold spec_DrawSweepIn.f at h
 have H := h; clear h
 replace H := bi_ H; obtain ⟨⟨g, t, u⟩, A2, H⟩ := H; (try dsimp only at H)
 replace H := bi_ H; obtain ⟨⟨n, o, p, i, j⟩, A3, H⟩ := H; (try dsimp only at H)
 obtain ⟨q, hy_⟩ : ∃ y_ : List Int, y_ = (([0, 3, 8, 12, 30, 100] : List Int)) := ⟨_, rfl⟩
 replace H : ((spec_l1Int.f g i j q).bind fun x => (some (n, o, p, x.1))) = some (T, U, V, W) := hm_
 have r := M_ hy_; clear hy_
 replace H := bi_ H; obtain ⟨⟨D, E, F⟩, A4, H⟩ := H; (try dsimp only at H)
 simp only [Option.some.injEq, Prod.mk.injEq] at H
 obtain ⟨rfl, rfl, rfl, rfl⟩ := H
 go_enter Tryz.func13, Tryz.ntmps13
 go_wp2_with (first | ((with_reducible refine gd_ 2 rfl ?_); refine bV_ 2 #[.int .i64 0, .int .i64 0, .slice none 0 0] 26 ?_; intro y hg w5 a hb; have Z := gq_ hg m; replace m := st_ m hb; clear hb hg) | ((with_reducible refine gate_callee (f := 50) rfl ?_); refine gl_ (some 6) Tryz.func50 #[.slice Q v.length R] ?_; (with_reducible refine (spec_l1New.calls k _ _ v g t u w _ ?_ ?_ ?_ A2.1).mono ?_); exact hs_ m.1; exact X.1; exact Y.1; rintro e w6 ⟨g847, rfl, hi, hb, hb2⟩; refine ⟨_, rfl, ?_⟩; replace m := M_ (hb); have b := M_ (hi); have z := Ne_.mk (IsS102.ne_blk hi (bb_ a.1 hb2) (by decide)); have l := Ne_.mk (Ne.symm (IsS102.ne_blk hi (bb_ a.1 hb2) (by decide))); replace a := M_ (bb_ a.1 hb2); (try clear hb); (try clear hb2); (try clear hi)) | ((with_reducible refine gate_callee (f := 51) rfl ?_); refine gl_ (some 8) Tryz.func51 #[.pointer (some ⟨g847, 0, none⟩), .int .i64 0, .int .i64 1] ?_; (with_reducible refine (spec_l7Any.calls k g847 g t u 0 1 n o p i j w _ ?_ ?_ A3.1).mono ?_); exact IsS102.pk_ b.1; exact hs_ m.1; rintro e w7 ⟨ha, rfl, G, hi, hb, hk⟩; refine ⟨_, rfl, ?_⟩; replace a := kb_ hk a; have c := sw_ G m; replace m := M_ (hb); replace b := M_ (hi); (try clear hb); (try clear hb2); (try clear hk hi G)) | ((with_reducible refine gd_ 10 rfl ?_); refine Kd.R_lit (Kd.int .i64) _ 3 ?hg (N := 10) ?hd (xs := ([0, 3, 8, 12, 30, 100] : List Int)) (inner := [.int .i64 0, .int .i64 3, .int .i64 8, .int .i64 12, .int .i64 30, .int .i64 100]) (ok := fun _ => True) (okp := fun _ => True) ?hr ?hp (fun _ hk => hk) trivial (Below.refl _ _) (Nat.le_refl _) (by simp) ?_; (case hd => rfl); (case hg => rfl); (case hr => first | (go_simp; done) | (go_simp; rfl)); (case hp => exact (Reps.one (show Kd.M (Kd.int .i64) _ _ _ 0 [.int .i64 0] from rfl) (Reps.one (show Kd.M (Kd.int .i64) _ _ _ 3 [.int .i64 3] from rfl) (Reps.one (show Kd.M (Kd.int .i64) _ _ _ 8 [.int .i64 8] from rfl) (Reps.one (show Kd.M (Kd.int .i64) _ _ _ 12 [.int .i64 12] from rfl) (Reps.one (show Kd.M (Kd.int .i64) _ _ _ 30 [.int .i64 30] from rfl) (Reps.one (show Kd.M (Kd.int .i64) _ _ _ 100 [.int .i64 100] from rfl) (Reps.none _ _)))))))); intro ia w8 s hb hg_ hnew_; clear hg_ hnew_; (first | rw [← r.1] at s | (simp only [Int.reduceToNat] at s; rw [← r.1] at s)); replace c := sb_ c hb; have d := rw_ s m; replace a := bk2_ a hb; replace b := IsS102.bk_ b hb; replace m := st_ m hb; clear hb s; obtain ⟨I, J, K⟩ := Kd.R_slice d.1; subst K) | ((with_reducible refine gate_callee (f := 66) rfl ?_); refine gl_ (some 11) Tryz.func66 #[.pointer (some ⟨g847, 0, none⟩), .slice I q.length J] ?_; (with_reducible refine (spec_l1Int.calls g847 g i j _ _ q D E F w _ ?_ ?_ ?_ ?_ ?_ A4.1).mono ?_); exact IsS102.pk_ b.1; exact hs_ m.1; exact cp_ ((Kd.R_reads' d.1).2.2); exact (Kd.R_reads' d.1).2.1; exact far_slice (IsS102.own_ne b.1 d.1 (by decide)); rintro e ma ⟨rfl, hi, hb, hk⟩; refine ⟨_, rfl, ?_⟩; replace a := kb_ hk a; replace c := M_ (Kd.S_mono (Kd.S_keep (IsS102.apartS (show IsS102 w _ g847 g i j from IsS102.pk_ b.1) (sp_ c.1) (by decide)) hk (fun _ h => h.2)) (fun _ h => h.1)); replace d := M_ (Kd.R_mono (Kd.R_keep (IsS102.apart (show IsS102 w _ g847 g i j from IsS102.pk_ b.1) (rp_ d.1) (by decide)) hk (fun _ h => h.2)) (fun _ h => h.1)); replace m := M_ (hb); replace b := M_ (hi); (try clear hb); (try clear hb2); (try clear hk hi); have aa := n2_ l; obtain ⟨ba, ca, da, ea, fa, ga⟩ := bc3_ a.1; obtain ⟨L, O, P⟩ := Kd.S_slice c.1; subst P))
 refine bodyPost_ret (results_ct rfl _ _ y 26 #[.int .i64 n, .int .i64 o, .slice L p.length O] (0, 0) _ rfl (bp_ a.1) Tryz.underlying26 rfl (by kernel_rfl)) rfl ?_
 exact ⟨_, rr_, Kd.S_mono (sy_ c.1 a.1) (fun _ hk => trivial), hs_ m.1⟩
def impl_Over.f (b : List (S99)) (c : Int) (a : Int) (d : ByteArray) (e : Int) : Option (Bool) := some (decide (a ≤ e))
theorem impl_Over.calls (b : Option Addr) (c : Nat) (a : List (S99)) (d : Int) (g : Int) (i : ByteArray) (s : Int) (r : Bool) (w : World) (j : Kd.C k99 w b a.length a) (k : a.length ≤ c) (h : impl_Over.f a d g i s = some r) :
  Calls Tryz.prog 26 #[.agg #[.slice b a.length c, .int .i64 d, .int .i64 g, .string i], .int .i64 s] w fun e w' => e = .returned (.bool r) ∧ Below w.heap.size w w' := by
 have hu29 := Tryz.underlying29
 have n := M_ j
 have o := M_ k
 clear j k
 have m := M_ (Below.refl w.heap.size w)
 unfold impl_Over.f at h
 have H := h; clear h
 obtain rfl := Option.some.inj H
 go_enter Tryz.func26, Tryz.ntmps26
 go_wp2_with (first | ((with_reducible refine gd_ 2 rfl ?_); refine bV_ 2 #[.slice b a.length c, .int .i64 d, .int .i64 g, .string i] 29 ?_; intro p hg D l hb; have q := gq_ hg m; replace m := st_ m hb; clear hb hg; obtain ⟨t, u, v, x, y, z, A, B⟩ := bc4_ l.1))
 go_ret
 exact an_ (hs_ m.1)
def impl_DropOver.l0 : Nat → Int → List (S29) → List (S29) → Int → Int → Int → List (S29) → Option (Int × (List (S29)) × (List (S29)))
 | 0, _, _, _, _, _, _, _ => none
 | k + 1, l, j, b, h, a, d, c => if a < h then (if 0 ≤ a then (if a < (b.length : Int) then ((impl_Over.f ((rd_T29 b a).f0) ((rd_T29 b a).f1) ((rd_T29 b a).f2) ((rd_T29 b a).f3) l).bind fun i => (if i = true then ((impl_copyAlarm.f ((rd_T29 b a).f0) ((rd_T29 b a).f1) ((rd_T29 b a).f2) ((rd_T29 b a).f3)).bind fun e => (if j.length < 2513169434916 then (impl_DropOver.l0 k l (j ++ [(⟨e.1, e.2.1, e.2.2.1, e.2.2.2⟩ : S29)]) b h (wrap64 (a + 1)) d c) else (none))) else ((impl_copyAlarm.f ((rd_T29 b a).f0) ((rd_T29 b a).f1) ((rd_T29 b a).f2) ((rd_T29 b a).f3)).bind fun g => (if c.length < 2513169434916 then (impl_DropOver.l0 k l j b h (wrap64 (a + 1)) d (c ++ [(⟨g.1, g.2.1, g.2.2.1, g.2.2.2⟩ : S29)])) else (none))))) else (none)) else (none)) else (some (d, c, j))
def impl_DropOver.f (k : Nat) (b : Int) (a : List (S29)) (c : Int) : Option (Int × (List (S29)) × (List (S29))) := impl_DropOver.l0 k c ([] : List (S29)) a (a.length : Int) 0 b ([] : List (S29))
def impl_DropOver.T8 : Bool × List (List Nat × List Nat) := (true, [([], []), ([0], [0]), ([], []), ([2], [2]), ([3], [3]), ([1, 4, 3], [1, 4]), ([0, 1, 2, 3, 4, 5], []), ([6, 5, 5, 0, 1, 2, 3, 4, 5], [5, 6])])
def impl_DropOver.B8 : List Nat := [0, 1, 0, 4, 12, 31, 63, 127]
theorem impl_DropOver.tab8 : rtab .any (opsOf Tryz.f67 8) = impl_DropOver.T8 := by kernel_rfl
theorem impl_DropOver.bits8 : waitsOk impl_DropOver.T8.2 impl_DropOver.B8 = true := by kernel_rfl
theorem impl_DropOver.calls (k : Nat) (y : Int) (ea : Option Addr) (fa : Nat) (d : List (S29)) (a1 : Int) (r1 : Int) (r2 : List (S29)) (r3 : List (S29)) (w : World) (ga : Kd.C k29 w ea d.length d) (ha : d.length ≤ fa) (h : impl_DropOver.f k y d a1 = some (r1, r2, r3)) :
  Calls Tryz.prog 67 #[.agg #[.int .i64 y, .slice ea d.length fa], .int .i64 a1] w fun e w' => ∃ v1_ v2_ : Value, e = .returned (.tuple #[.agg #[.int .i64 r1, v1_], v2_]) ∧ Kd.S k29 29 w' w.heap.size (fun k_ => some k_ ≠ (v2_ : Value).ownBlock) v1_ r2 ∧ Kd.S k29 29 w' w.heap.size (fun k_ => some k_ ≠ (v1_ : Value).ownBlock) v2_ r3 ∧ Below w.heap.size w w' := by
 have hu80 := Tryz.underlying80
 have hu29 := Tryz.underlying29
 have wa := M_ ga
 have db := M_ ha
 clear ga ha
 have x := M_ (Below.refl w.heap.size w)
 unfold impl_DropOver.f at h
 have H := h; clear h
 have H' := M_ H
 clear H
 go_enter Tryz.func67, Tryz.ntmps67
 go_wp2_with (first | ((with_reducible refine gd_ 2 rfl ?_); refine bV_ 2 #[.int .i64 y, .slice ea d.length fa] 80 ?_; intro xa hg w3 l hb; have eb := gq_ hg x; replace x := st_ x hb; clear hb hg) | ((with_reducible refine gd_ 4 rfl ?_); refine bV_ 4 #[.int .i64 0, .slice none 0 0] 80 ?_; intro ia hg w4 m hb; have fb := gq_ hg x; replace x := st_ x hb; obtain ⟨X, Y, l⟩ := nb_ l hg hb; clear hb hg; have gc := n2_ X; obtain ⟨hc, ic, jc, kc⟩ := bc2_ l.1) | ((with_reducible refine gd_ 6 rfl ?_); refine bV_ 6 #[.int .i64 0, .slice none 0 0] 80 ?_; intro L hg w7 i hb; have gb := gq_ hg x; replace x := st_ x hb; obtain ⟨Z, z, l⟩ := nb_ l hg hb; obtain ⟨aa, A, m⟩ := nb_ m hg hb; clear hb hg; have lc := n2_ z; have mc := n2_ A; obtain ⟨ib, jb, kb, lb⟩ := bc2_ i.1; obtain ⟨mb, nb, ob, pb⟩ := bc2_ l.1))
 go_loopg [7, 16] k (fun kq v7 qb w' => ∃ (E : List (S29)) (a : Int) (s : List (S29)) (q : Value), qb = .int .i64 a ∧ Aside0 (impl_DropOver.l0 kq a1 E d (d.length : Int) a y s = some (r1, r2, r3)) ∧ Aside0 (kq ≤ k) ∧ Aside0 (Kd.S k29 29 w' w.heap.size (fun k_ => some k_ ≠ (q : Value).ownBlock) v7 E) ∧ Aside0 (Kd.S k29 29 w' w.heap.size (fun k_ => some k_ ≠ (v7 : Value).ownBlock) q s) ∧ Aside0 (w'.heap[xa]? = some (.cells #[.int .i64 y, (.slice ea d.length fa)] 80 (0, 0))) ∧ Aside0 (w'.heap[ia]? = some (.cells #[.int .i64 0, (.slice none 0 0)] 80 (0, 0))) ∧ Aside0 (w'.heap[L]? = some (.cells #[.int .i64 y, q] 80 (0, 0))) ∧ Aside0 (Below w.heap.size w w'))
 case atStart => exact ⟨(([] : List (S29))), (0), (([] : List (S29))), (.slice none 0 0), rs_, H', ⟨Nat.le_refl _⟩, ⟨ni_⟩, ⟨ni_⟩, ⟨bq_ l.1⟩, ⟨bq_ m.1⟩, ⟨bp_ i.1⟩, ⟨hs_ x.1⟩⟩
 case round =>
  clear H'
  obtain ⟨E, a, s, q, rfl, HA, ra, p, c, l, m, i, x⟩ := hrel
  cases gk with
  | zero => exact absurd HA.1 (by simp [impl_DropOver.l0])
  | succ k1 =>
   have H := HA.1
   clear HA
   simp only [impl_DropOver.l0] at H
   replace H := ie_ H; rcases H with ⟨ja, H⟩ | ⟨ja, H⟩
   ·
    have ya := decide_eq_true ja
    clear ja
    replace H := i2_ H; obtain ⟨sb, tb, H⟩ := H
    replace H := bi_ H; obtain ⟨oc, Ja, H⟩ := H
    have AHz_ := M_ H
    clear H
    obtain ⟨ub, t, u, Ka, La, Ma, Na, Oa, B, D, pc, qc⟩ := au_T29 wa.1 x a
    cases Ka
    go_wp2_with (first | (((with_reducible refine gd_ 9 rfl ?_); refine bV_ 9 #[.slice none 0 0, .int .i64 0, .int .i64 0, .string (⟨#[]⟩ : ByteArray)] 29 ?_; intro r hg wc j hb; replace p := se_ p hg hb; replace c := se_ c hg hb; have vb := gq_ hg x; replace x := st_ x hb; obtain ⟨za, ba, l⟩ := nb_ l hg hb; obtain ⟨Aa, ca, m⟩ := nb_ m hg hb; obtain ⟨da, F, i⟩ := nb_ i hg hb; clear hb hg; have wb := n2_ ba; have xb := n2_ ca; have yb := n2_ F; obtain ⟨zb, Ab, Bb, Cb, Db, Eb, Fb, Gb⟩ := bc4_ j.1); refine Aside0.out ?_))
    have H := AHz_.1
    clear AHz_
    replace H := ib_ H; rcases H with ⟨rfl, H⟩ | ⟨rfl, H⟩
    ·
     replace H := bi_ H; obtain ⟨⟨G, P, Q, R⟩, Hb, H⟩ := H; (try dsimp only at H)
     replace H := im_ H; obtain ⟨Ba, H⟩ := H
     obtain ⟨sa, hy_⟩ : ∃ y_ : List (S29), y_ = (E ++ [(⟨G, P, Q, R⟩ : S29)]) := ⟨_, rfl⟩
     replace H : (impl_DropOver.l0 k1 a1 sa d (d.length : Int) (wrap64 (a + 1)) y s) = some (r1, r2, r3) := hm_
     have Ca := M_ hy_; clear hy_
     have H' := M_ H
     clear H
     refine ⟨?_⟩
     go_wp2_with (first | ((with_reducible refine gate_callee (f := 26) rfl ?_); refine gl_ (some 22) Tryz.func26 #[.agg #[.slice t ((rd_T29 d a).f0).length u, .int .i64 ((rd_T29 d a).f1), .int .i64 ((rd_T29 d a).f2), .string ((rd_T29 d a).f3)], .int .i64 a1] ?_; (with_reducible refine (impl_Over.calls _ _ ((rd_T29 d a).f0) ((rd_T29 d a).f1) ((rd_T29 d a).f2) ((rd_T29 d a).f3) a1 true _ ?_ ?_ Ja.1).mono ?_); exact Kd.C_below D.1 (hs_ x.1); exact B.1; rintro e xc ⟨rfl, hb⟩; refine ⟨_, rfl, ?_⟩; replace p := M_ (Kd.S_below (sf_ r p.1 (fun _ hk => hk.2)) hb); replace c := M_ (Kd.S_below (sf_ r c.1 (fun _ hk => hk.2)) hb); obtain ⟨l, m, i⟩ := u3_ hb l m i; replace j := by_ j #[.slice t ((rd_T29 d a).f0).length u, .int .i64 ((rd_T29 d a).f1), .int .i64 ((rd_T29 d a).f2), .string ((rd_T29 d a).f3)] hb; replace x := st_ x hb; (try clear hb); obtain ⟨Ib, Jb, Kb, Lb, Mb, Nb, Ob, Pb⟩ := bc4_ j.1) | ((with_reducible refine gate_callee (f := 58) rfl ?_); refine gl_ (some 25) Tryz.func58 #[.agg #[.slice t ((rd_T29 d a).f0).length u, .int .i64 ((rd_T29 d a).f1), .int .i64 ((rd_T29 d a).f2), .string ((rd_T29 d a).f3)]] ?_; (with_reducible refine (impl_copyAlarm.calls _ _ ((rd_T29 d a).f0) ((rd_T29 d a).f1) ((rd_T29 d a).f2) ((rd_T29 d a).f3) G P Q R _ ?_ ?_ Hb.1).mono ?_); exact cp_ ((Kd.C_below D.1 x.1)); exact B.1; rintro e yc ⟨rc, rfl, M, hb⟩; refine ⟨_, rfl, ?_⟩; replace p := M_ (Kd.S_elder' (sp_ p.1) (Kd.R_base M) hb); replace c := M_ (Kd.S_elder' (sp_ c.1) (Kd.R_base M) hb); have N := rw_ M x; obtain ⟨l, m, i, j, x⟩ := u5_ hb l m i j x; (try clear hb M); obtain ⟨ka, la, Pa⟩ := Kd.R_slice N.1; subst Pa) | ((with_reducible refine gate_builtin (b := .append) (xs := #[.tmp 23, .tmp 26]) rfl ?_); at_builtin; refine Kd.S_append k29 (w0 := w) w.heap.size rfl (.tmp 23) (.tmp 26) 40 29 (.agg #[(.slice none 0 0), (.int .i64 0), (.int .i64 0), (.string ⟨#[]⟩)]) 56 rfl Tryz.underlying40 info29 rfl (by decide) (by omega) u7 E (⟨G, P, Q, R⟩ : S29) [.slice ka G.length la, .int .i64 P, .int .i64 Q, .string R] (fun k_ => some k_ ≠ (q : Value).ownBlock ∧ k_ ≠ r) (fun k_ => some k_ = (.slice ka G.length la : Value).ownBlock) rfl rfl ?aP (fun k_ hk_ => ((Kd.R_mono (ok' := fun k_ => ((fun k_ => some k_ ≠ (q : Value).ownBlock ∧ k_ ≠ r)) k_ ∧ some k_ ≠ (u7 : Value).ownBlock) (Kd.R_types (Kd.R_apart' (Kd.R_apart' (N.1) (Kd.S_typed c.1) (by decide)) (Kd.S_typed p.1) (by decide)) j.1 (by decide)) (fun k_ hk => ⟨⟨hk.1.1.2, hk.2⟩, hk.1.2⟩))).1 k_ hk_.symm) ?aF ?aO ?aB ?aS ?aL ?_; (case aP => exact k29_mkM _ _ _ (⟨G, P, Q, R⟩ : S29) (Kd.R_mono (Kd.R_tight rfl (Kd.R_mono (ok' := fun k_ => ((fun k_ => some k_ ≠ (q : Value).ownBlock ∧ k_ ≠ r)) k_ ∧ some k_ ≠ (u7 : Value).ownBlock) (Kd.R_types (Kd.R_apart' (Kd.R_apart' (N.1) (Kd.S_typed c.1) (by decide)) (Kd.S_typed p.1) (by decide)) j.1 (by decide)) (fun k_ hk => ⟨⟨hk.1.1.2, hk.2⟩, hk.1.2⟩))) (fun _ h_ => h_))); (case aB => exact (hs_ x.1)); (case aF => exact (fun k_ hk => ⟨Kd.fresh' (Kd.S_lt (sp_ c.1)) k_ hk, Kd.freshB (g := r) (o := .cells #[.slice t ((rd_T29 d a).f0).length u, .int .i64 ((rd_T29 d a).f1), .int .i64 ((rd_T29 d a).f2), .string ((rd_T29 d a).f3)] 29 (0, 0)) (pb_ j.1) k_ hk⟩)); (case aO => exact (Kd.S_mono (sp_ p.1) (fun k_ hk => ⟨⟨hk.1.1, hk.1.2⟩, fun e_ => hk.2 e_⟩))); (case aS => exact (below_size (hs_ x.1))); (case aL => have := Ba.1; omega); intro sc zc ho hb hg hat; rw [← Ca.1] at ho; replace c := M_ (Kd.S_after (ok := (fun k_ => some k_ ≠ (.slice ka G.length la : Value).ownBlock ∧ k_ ≠ r)) (Kd.S_mono (sp_ c.1) (fun _ hk => ⟨⟨hk.2, hk.1.2⟩, hk.1.1⟩)) hg hat); replace l := bg_ l hg p; replace m := bg_ m hg p; replace i := bg_ i hg p; replace j := M_ (blk_grown (bq_ j.1) hg (Kd.S_away p.1 (fun _ hk => hk.1.2))); replace x := M_ (hb); have Da := M_ (ho); clear p N; clear ho hb hg hat))
     go_roundg k1
     case measure => have := ra.1; omega
     case rel => exact ⟨(sa), (wrap64 (a + 1)), (s), (q), rs_, H', ⟨by have := ra.1; omega⟩, ⟨Kd.S_mono (sp_ Da.1) (fun _ hk => hk.1)⟩, ⟨Kd.S_mono (sp_ c.1) (fun _ hk => hk.2)⟩, ⟨bq_ l.1⟩, ⟨bq_ m.1⟩, ⟨bq_ i.1⟩, ⟨hs_ x.1⟩⟩
    replace H := bi_ H; obtain ⟨⟨I, T, U, V⟩, Qb, H⟩ := H; (try dsimp only at H)
    replace H := im_ H; obtain ⟨Ea, H⟩ := H
    obtain ⟨ma, hy_⟩ : ∃ y_ : List (S29), y_ = (s ++ [(⟨I, T, U, V⟩ : S29)]) := ⟨_, rfl⟩
    replace H : (impl_DropOver.l0 k1 a1 E d (d.length : Int) (wrap64 (a + 1)) y ma) = some (r1, r2, r3) := hm_
    have Fa := M_ hy_; clear hy_
    have H' := M_ H
    clear H
    refine ⟨?_⟩
    try go_wp2_with (first | ((with_reducible refine gate_callee (f := 26) rfl ?_); refine gl_ (some 22) Tryz.func26 #[.agg #[.slice t ((rd_T29 d a).f0).length u, .int .i64 ((rd_T29 d a).f1), .int .i64 ((rd_T29 d a).f2), .string ((rd_T29 d a).f3)], .int .i64 a1] ?_; (with_reducible refine (impl_Over.calls _ _ ((rd_T29 d a).f0) ((rd_T29 d a).f1) ((rd_T29 d a).f2) ((rd_T29 d a).f3) a1 false _ ?_ ?_ Ja.1).mono ?_); exact Kd.C_below D.1 (hs_ x.1); exact B.1; rintro e Rb ⟨rfl, hb⟩; refine ⟨_, rfl, ?_⟩; replace p := M_ (Kd.S_below (sf_ r p.1 (fun _ hk => hk.2)) hb); replace c := M_ (Kd.S_below (sf_ r c.1 (fun _ hk => hk.2)) hb); obtain ⟨l, m, i⟩ := u3_ hb l m i; replace j := by_ j #[.slice t ((rd_T29 d a).f0).length u, .int .i64 ((rd_T29 d a).f1), .int .i64 ((rd_T29 d a).f2), .string ((rd_T29 d a).f3)] hb; replace x := st_ x hb; (try clear hb)))
    obtain ⟨p, c, l, m, i, j, x⟩ := y7_ p c l m i j x
    refine start_ (n := 8) (S := fun w' => c_ w' L 0 (.int .i64 y) ∧ c_ w' L 1 (q) ∧ c_ w' r 0 (.slice t ((rd_T29 d a).f0).length u) ∧ c_ w' r 1 (.int .i64 ((rd_T29 d a).f1)) ∧ c_ w' r 2 (.int .i64 ((rd_T29 d a).f2)) ∧ c_ w' r 3 (.string ((rd_T29 d a).f3))) (ds := [7]) (b_ 0 8) (by kernel_rfl) rfl rfl (f2_ i.1 (e4_ j.1)) (fun J => ?_); refine with_tabW impl_DropOver.tab8 impl_DropOver.bits8 (fun W Sb => ?_)
    generalize Rb.drew = Ac at p c l m i j x J ⊢
    refine p_ W ?_
    iterate 2 refine t0_ W Sb J ?_
    refine o1_ 3 (b_ 4 4) W (fun K hK => ?_)
    refine gs_ Tryz.func58 #[.agg #[.slice t ((rd_T29 d a).f0).length u, .int .i64 ((rd_T29 d a).f1), .int .i64 ((rd_T29 d a).f2), .string ((rd_T29 d a).f3)]] ?_
    with_reducible refine (impl_copyAlarm.calls _ _ ((rd_T29 d a).f0) ((rd_T29 d a).f1) ((rd_T29 d a).f2) ((rd_T29 d a).f3) I T U V _ ?_ ?_ Qb.1).mono ?_
    exact cp_ ((Kd.C_below D.1 x.1))
    exact B.1
    rintro e Bc ⟨tc, rfl, M, hb⟩
    refine ⟨_, rfl, ?_⟩
    replace p := M_ (Kd.S_elder' (sp_ p.1) (Kd.R_base M) hb)
    replace c := M_ (Kd.S_elder' (sp_ c.1) (Kd.R_base M) hb)
    have O := rw_ M x
    obtain ⟨l, m, i, j, x⟩ := u5_ hb l m i j x
    (try clear hb M)
    obtain ⟨na, oa, ua⟩ := Kd.R_slice O.1
    (first | subst ua | (obtain ⟨rfl, rfl⟩ := si_ ua))
    refine ho_ hK (f2_ i.1 (e4_ j.1)) (fun J => ?_)
    refine o1_ 4 (b_ 5 3) W (fun K hK => ?_)
    refine value_ (w1 := ?_) (v := ?_) (by rfl) rfl ?_ ?_
    rotate_left 2
    ·
     go_simp
     constructor
     ·
      rfl
     rfl
    refine ho_ hK ⟨(blk_cell (blk_alloc i.1 _) 0).trans rfl, (blk_cell (blk_alloc i.1 _) 1).trans rfl, (blk_cell (blk_alloc j.1 _) 0).trans rfl, (blk_cell (blk_alloc j.1 _) 1).trans rfl, (blk_cell (blk_alloc j.1 _) 2).trans rfl, (blk_cell (blk_alloc j.1 _) 3).trans rfl⟩ (fun J => ?_)
    refine o1_ 5 (b_ 6 2) W (fun K hK => ?_)
    refine Kd.S_append_step k29 (w0 := w) w.heap.size (by rfl) (.tmp 29) (.tmp 32) 40 29 (.agg #[(.slice none 0 0), (.int .i64 0), (.int .i64 0), (.string ⟨#[]⟩)]) 56 rfl Tryz.underlying40 info29 rfl (by decide) (by omega) q s (⟨I, T, U, V⟩ : S29) [.slice na I.length oa, .int .i64 T, .int .i64 U, .string V] (fun k_ => some k_ ≠ (u7 : Value).ownBlock ∧ k_ ≠ r) (fun k_ => some k_ = (.slice na I.length oa : Value).ownBlock) rfl rfl ?aP (fun k_ hk_ => ((Kd.R_mono (ok' := fun k_ => ((fun k_ => some k_ ≠ (u7 : Value).ownBlock ∧ k_ ≠ r)) k_ ∧ some k_ ≠ (q : Value).ownBlock) (Kd.R_types (Kd.R_apart' (Kd.R_apart' (O.1) (Kd.S_typed p.1) (by decide)) (Kd.S_typed c.1) (by decide)) j.1 (by decide)) (fun k_ hk => ⟨⟨hk.1.1.2, hk.2⟩, hk.1.2⟩))).1 k_ hk_.symm) ?aF ?aO ?aB ?aS ?aL ?_
    (case aP => exact k29_mkM _ _ _ (⟨I, T, U, V⟩ : S29) (Kd.R_mono (Kd.R_tight rfl (Kd.R_mono (ok' := fun k_ => ((fun k_ => some k_ ≠ (u7 : Value).ownBlock ∧ k_ ≠ r)) k_ ∧ some k_ ≠ (q : Value).ownBlock) (Kd.R_types (Kd.R_apart' (Kd.R_apart' (O.1) (Kd.S_typed p.1) (by decide)) (Kd.S_typed c.1) (by decide)) j.1 (by decide)) (fun k_ hk => ⟨⟨hk.1.1.2, hk.2⟩, hk.1.2⟩))) (fun _ h_ => h_)))
    (case aB => exact (hs_ x.1))
    (case aF => exact (fun k_ hk => ⟨Kd.fresh' (Kd.S_lt (sp_ p.1)) k_ hk, Kd.freshB (g := r) (o := .cells #[.slice t ((rd_T29 d a).f0).length u, .int .i64 ((rd_T29 d a).f1), .int .i64 ((rd_T29 d a).f2), .string ((rd_T29 d a).f3)] 29 (0, 0)) (pb_ j.1) k_ hk⟩))
    (case aO => exact (Kd.S_mono (sp_ c.1) (fun k_ hk => ⟨⟨hk.1.1, hk.1.2⟩, fun e_ => hk.2 e_⟩)))
    (case aS => exact (below_size (hs_ x.1)))
    (case aL => have := Ea.1; omega)
    intro uc Tb ho hb hg hat
    rw [← Fa.1] at ho
    replace p := M_ (Kd.S_after (ok := (fun k_ => some k_ ≠ (.slice na I.length oa : Value).ownBlock ∧ k_ ≠ r)) (Kd.S_mono (sp_ p.1) (fun _ hk => ⟨⟨hk.2, hk.1.2⟩, hk.1.1⟩)) hg hat)
    replace l := bg_ l hg c
    replace m := bg_ m hg c
    replace i := bg_ i hg c
    replace j := M_ (blk_grown (bq_ j.1) hg (Kd.S_away c.1 (fun _ hk => hk.1.2)))
    replace x := M_ (hb)
    have pa := M_ (ho)
    clear c O
    clear ho hb hg hat
    obtain ⟨Ra, Sa, va⟩ := Kd.S_slice pa.1
    (first | subst va | (obtain ⟨rfl, rfl⟩ := si_ va))
    refine ho_ hK (f2_ i.1 (e4_ j.1)) (fun J => ?_)
    refine p_ W ?_
    refine l1_ 7 (b_ 8 0) W (fun K hK => ?_)
    have vc : Tb.cell? ⟨L, 1, none⟩ = some (q) := bx_ i.1 1
    have Ub := blk_frozen i.1 1
    have Ta := Z.1
    have Ua := aa.1
    have Va := F.1
    have Wa := z.1
    have Xa := A.1
    have Ya := da.1
    refine skip_ (w1 := ?_) (by rfl) rfl ?_ ?_
    rotate_left
    ·
     go_simp
     rfl
    refine hK.out _ _ ?_
    clear hK K
    refine done_ (done_of W.1 (by kernel_rfl)) ?_
    try go_wp2
    go_roundg k1
    case measure => have := ra.1; omega
    case rel => exact ⟨(E), (wrap64 (a + 1)), (ma), (.slice Ra ma.length Sa), rs_, H', ⟨by have := ra.1; omega⟩, ⟨Kd.S_mono (sy_ p.1 i.1) (fun _ hk => hk.2)⟩, ⟨Kd.S_mono (sy_ pa.1 i.1) (fun _ hk => hk.1)⟩, ⟨bq_ l.1⟩, ⟨bq_ m.1⟩, ⟨bp_ i.1⟩, ⟨hs_ x.1⟩⟩
   have ya : decide (a < (d.length : Int)) = false := decide_eq_false ja
   clear ja
   simp only [Option.some.injEq, Prod.mk.injEq] at H
   obtain ⟨rfl, rfl, rfl⟩ := H
   have Vb := n2_ z
   have Wb := n2_ A
   obtain ⟨Xb, Yb, Zb, ac⟩ := bc2_ i.1
   have bc := n2_ Y
   obtain ⟨cc, dc, ec, fc⟩ := bc2_ m.1
   obtain ⟨Za, ab, bb⟩ := Kd.S_slice c.1
   subst bb
   go_wp2
   refine bodyPost_ret (results_ct rfl _ _ ia 80 #[.int .i64 y, .slice Za s.length ab] (0, 0) _ rfl (bp_ m.1) Tryz.underlying80 rfl (by kernel_rfl)) rfl ?_
   exact ⟨_, _, rr_, sy_ c.1 m.1, sy_ p.1 m.1, hs_ x.1⟩
def impl_SweepIn.l0 : Nat → Int → List (S29) → List (S80) → Int → Int → Int → Int → List (S80) → Option (Int × Int × (List (S80)) × (List (S29)))
 | 0, _, _, _, _, _, _, _, _ => none
 | k + 1, j, h, g, i, e, c, d, a => if e < i then (if 0 ≤ e then (if e < (g.length : Int) then ((impl_DropOver.f k ((rd_T80 g e).f0) ((rd_T80 g e).f1) j).bind fun b => (if (b.2.1.length : Int) > 0 then (if a.length < 4398046511104 then (if h.length + b.2.2.length < 2513169434916 then (impl_SweepIn.l0 k j (h ++ b.2.2) g i (wrap64 (e + 1)) c d (a ++ [(⟨b.1, b.2.1⟩ : S80)])) else (none)) else (none)) else (if h.length + b.2.2.length < 2513169434916 then (impl_SweepIn.l0 k j (h ++ b.2.2) g i (wrap64 (e + 1)) c d a) else (none)))) else (none)) else (none)) else (if (h.length : Int) > 0 then (some (c, wrap64 (d + 1), a, h)) else (some (c, d, a, h)))
def impl_SweepIn.f (k : Nat) (b : Int) (c : Int) (a : List (S80)) (d : Int) : Option (Int × Int × (List (S80)) × (List (S29))) := impl_SweepIn.l0 k d ([] : List (S29)) a (a.length : Int) 0 b c ([] : List (S80))
theorem impl_SweepIn.calls (k : Nat) (B : Int) (z : Int) (oa : Option Addr) (ea : Nat) (n : List (S80)) (a1 : Int) (r1 : Int) (r2 : Int) (r3 : List (S80)) (r4 : List (S29)) (w : World) (pa : Kd.C k80 w oa n.length n) (qa : n.length ≤ ea) (h : impl_SweepIn.f k B z n a1 = some (r1, r2, r3, r4)) :
  Calls Tryz.prog 14 #[.agg #[.int .i64 B, .int .i64 z, .slice oa n.length ea], .int .i64 a1] w fun e w' => ∃ v2_ v3_ : Value, e = .returned (.tuple #[.agg #[.int .i64 r1, .int .i64 r2, v2_], v3_]) ∧ Kd.S k80 80 w' w.heap.size (fun k_ => some k_ ≠ (v3_ : Value).ownBlock) v2_ r3 ∧ Kd.S k29 29 w' w.heap.size (fun _ => True) v3_ r4 ∧ Below w.heap.size w w' := by
 have hu26 := Tryz.underlying26
 have hu80 := Tryz.underlying80
 have La := M_ pa
 have Hb := M_ qa
 clear pa qa
 have E := M_ (Below.refl w.heap.size w)
 unfold impl_SweepIn.f at h
 have H := h; clear h
 have H' := M_ H
 clear H
 go_enter Tryz.func14, Tryz.ntmps14
 go_wp2_with (first | ((with_reducible refine gd_ 2 rfl ?_); refine bV_ 2 #[.int .i64 B, .int .i64 z, .slice oa n.length ea] 26 ?_; intro ra hg w3 i hb; have Ib := gq_ hg E; replace E := st_ E hb; clear hb hg) | ((with_reducible refine gd_ 4 rfl ?_); refine bV_ 4 #[.int .i64 0, .int .i64 0, .slice none 0 0] 26 ?_; intro T hg w4 c hb; have Jb := gq_ hg E; replace E := st_ E hb; obtain ⟨fa, ga, i⟩ := nb_ i hg hb; clear hb hg; have jd := n2_ fa; obtain ⟨kd, ld, md, nd, od, pd⟩ := bc3_ i.1) | ((with_reducible refine gd_ 6 rfl ?_); refine bV_ 6 #[.int .i64 0, .int .i64 0, .slice none 0 0] 26 ?_; intro U hg w7 d hb; have Kb := gq_ hg E; replace E := st_ E hb; obtain ⟨Ma, K, i⟩ := nb_ i hg hb; obtain ⟨Na, L, c⟩ := nb_ c hg hb; clear hb hg; have qd := n2_ K; have rd := n2_ L; obtain ⟨Lb, Mb, Nb, Ob, Pb, Qb⟩ := bc3_ d.1; obtain ⟨Rb, Sb, Tb, Ub, Vb, Wb⟩ := bc3_ i.1))
 go_loopg [7, 20] k (fun kq v7 Xb w' => ∃ (D : List (S29)) (q : Int) (m : List (S80)) (A : Value), Xb = .int .i64 q ∧ Aside0 (impl_SweepIn.l0 kq a1 D n (n.length : Int) q B z m = some (r1, r2, r3, r4)) ∧ Aside0 (kq ≤ k) ∧ Aside0 (Kd.S k29 29 w' w.heap.size (fun _ => True) v7 D) ∧ Aside0 (Kd.S k80 80 w' w.heap.size (fun k_ => some k_ ≠ (v7 : Value).ownBlock) A m) ∧ Aside0 (w'.heap[ra]? = some (.cells #[.int .i64 B, .int .i64 z, (.slice oa n.length ea)] 26 (0, 0))) ∧ Aside0 (w'.heap[T]? = some (.cells #[.int .i64 0, .int .i64 0, (.slice none 0 0)] 26 (0, 0))) ∧ Aside0 (w'.heap[U]? = some (.cells #[.int .i64 B, .int .i64 z, A] 26 (0, 0))) ∧ Aside0 (Below w.heap.size w w'))
 case atStart => exact ⟨(([] : List (S29))), (0), (([] : List (S80))), (.slice none 0 0), rs_, H', ⟨Nat.le_refl _⟩, ⟨ni_⟩, ⟨ni_⟩, ⟨bq_ i.1⟩, ⟨bq_ c.1⟩, ⟨bp_ d.1⟩, ⟨hs_ E.1⟩⟩
 case round =>
  clear H'
  obtain ⟨D, q, m, A, rfl, HA, Ca, j, a, i, c, d, E⟩ := hrel
  cases gk with
  | zero => exact absurd HA.1 (by simp [impl_SweepIn.l0])
  | succ k1 =>
   have H := HA.1
   clear HA
   simp only [impl_SweepIn.l0] at H
   replace H := ie_ H; rcases H with ⟨sa, H⟩ | ⟨sa, H⟩
   ·
    have Oa := decide_eq_true sa
    clear sa
    replace H := i2_ H; obtain ⟨Zb, ac, H⟩ := H
    replace H := bi_ H; obtain ⟨⟨I, y, J⟩, bc, H⟩ := H; (try dsimp only at H)
    have AHz_ := M_ H
    clear H
    obtain ⟨Pa, V, W, sb, tb, ub, ta, ua, td, ud⟩ := au_T80 La.1 E q
    cases sb
    go_wp2_with (first | ((with_reducible refine gd_ 9 rfl ?_); refine bV_ 9 #[.int .i64 0, .slice none 0 0] 80 ?_; intro M hg Bd r hb; replace j := sb_ j hb; replace a := se_ a hg hb; have cc := gq_ hg E; replace E := st_ E hb; obtain ⟨Qa, ha, i⟩ := nb_ i hg hb; obtain ⟨Ra, ia, c⟩ := nb_ c hg hb; obtain ⟨Sa, ja, d⟩ := nb_ d hg hb; clear hb hg; have dc := n2_ ha; have ec := n2_ ia; have fc := n2_ ja; obtain ⟨gc, hc, ic, jc⟩ := bc2_ r.1) | (((with_reducible refine gate_callee (f := 67) rfl ?_); refine gl_ (some 27) Tryz.func67 #[.agg #[.int .i64 ((rd_T80 n q).f0), .slice V ((rd_T80 n q).f1).length W], .int .i64 a1] ?_; (with_reducible refine (impl_DropOver.calls k1 ((rd_T80 n q).f0) _ _ ((rd_T80 n q).f1) a1 I y J _ ?_ ?_ bc.1).mono ?_); exact Kd.C_below ua.1 (hs_ E.1); exact ta.1; rintro e Cd ⟨vd, va, rfl, Ta, vb, hb⟩; refine ⟨_, rfl, ?_⟩; obtain ⟨F, ba⟩ := Kd.S_name Ta; replace j := su_ ba (sy_ j.1 r.1) hb; replace a := su_ ba (sf_ M a.1 (fun _ hk => hk.2)) hb; have u := sg_ ba Ta E; have s := sg_ ba vb E; obtain ⟨i, c, d⟩ := u3_ hb i c d; replace r := by_ r #[.int .i64 ((rd_T80 n q).f0), .slice V ((rd_T80 n q).f1).length W] hb; replace E := st_ E hb; (try clear hb Ta vb)); refine Aside0.out ?_))
    have H := AHz_.1
    clear AHz_
    replace H := ie_ H; rcases H with ⟨wa, H⟩ | ⟨wa, H⟩
    ·
     have Ua : decide (0 < (y.length : Int)) = true := decide_eq_true wa
     have Va : decide (0 < y.length) = true := decide_eq_true (by omega)
     clear wa
     replace H := im_ H; obtain ⟨Wa, H⟩ := H
     obtain ⟨Y, hy_⟩ : ∃ y_ : List (S80), y_ = (m ++ [(⟨I, y⟩ : S80)]) := ⟨_, rfl⟩
     replace H : (if D.length + J.length < 2513169434916 then (impl_SweepIn.l0 k1 a1 (D ++ J) n (n.length : Int) (wrap64 (q + 1)) B z Y) else (none)) = some (r1, r2, r3, r4) := hm_
     have Xa := M_ hy_; clear hy_
     replace H := im_ H; obtain ⟨Ya, H⟩ := H
     obtain ⟨Ha, hy_⟩ : ∃ y_ : List (S29), y_ = (D ++ J) := ⟨_, rfl⟩
     replace H : (impl_SweepIn.l0 k1 a1 Ha n (n.length : Int) (wrap64 (q + 1)) B z Y) = some (r1, r2, r3, r4) := hm_
     have Za := M_ hy_; clear hy_
     have H' := M_ H
     clear H
     refine ⟨?_⟩
     go_wp2_with (first | ((with_reducible refine gd_ 10 rfl ?_); refine bV_ 10 #[.int .i64 0, .slice none 0 0] 80 ?_; intro x hg kc l hb; replace j := sb_ j hb; replace a := se_ a hg hb; obtain ⟨u, s⟩ := u2_ hb u s; have ab := gq_ hg E; have bb := gq_ hg E; replace E := st_ E hb; obtain ⟨ka, N, i⟩ := nb_ i hg hb; obtain ⟨la, O, c⟩ := nb_ c hg hb; obtain ⟨ma, P, d⟩ := nb_ d hg hb; obtain ⟨na, Q, r⟩ := nb_ r hg hb; clear hb hg; have lc := n2_ N; have mc := n2_ O; have nc := n2_ P; have oc := n2_ Q; obtain ⟨pc, qc, rc, sc⟩ := bc2_ l.1; obtain ⟨Z, aa, wb⟩ := Kd.S_slice u.1; subst wb) | ((with_reducible refine gate_store (t := 80) (p := 10) rfl ?_); refine store_event (t := 80) (p := 10) (v := ?vo_w32) (w1 := ((kc.setCell ⟨x, 0, none⟩ (.int .i64 I)).setCell ⟨x, 1, none⟩ (.slice Z y.length aa))) ?hg ?ho ?hn ?hr ?_; (case ho => rfl); (case hg => rfl); (case hn => rfl); (case hr => first | (go_simp; done) | (go_simp; rfl)); intro X hw; replace j : Aside0 (Kd.S k29 29 X w.heap.size (fun k_ => k_ < F) u7 D) := ⟨(by rw [hw]; exact (Kd.S_mono (sy_ j.1 l.1) (fun _ hk => hk.2)))⟩; replace a : Aside0 (Kd.S k80 80 X w.heap.size (fun k_ => some k_ ≠ (u7 : Value).ownBlock ∧ k_ ≠ M ∧ k_ < F ∧ k_ ≠ x) A m) := ⟨(by rw [hw]; exact (Kd.S_mono (sf_ x a.1 (fun _ hk => hk.2)) (fun _ hk => ⟨hk.1.1.1, ⟨hk.1.1.2, ⟨hk.1.2, hk.2⟩⟩⟩)))⟩; replace u : Aside0 (Kd.S k29 29 X w.heap.size (fun k_ => some k_ ≠ (va : Value).ownBlock ∧ F ≤ k_) (.slice Z y.length aa) y) := ⟨(by rw [hw]; exact (Kd.S_mono (sy_ u.1 l.1) (fun _ hk => ⟨hk.1, hk.2⟩)))⟩; replace s : Aside0 (Kd.S k29 29 X w.heap.size (fun k_ => some k_ ≠ (.slice Z y.length aa : Value).ownBlock ∧ F ≤ k_) va J) := ⟨(by rw [hw]; exact (Kd.S_mono (sy_ s.1 l.1) (fun _ hk => ⟨hk.1, hk.2⟩)))⟩; replace i : Aside0 (X.heap[ra]? = some (.cells #[.int .i64 B, .int .i64 z, .slice (some Pa) n.length ea] 26 (0, 0))) := ⟨(by rw [hw]; exact (bq_ i.1))⟩; replace c : Aside0 (X.heap[T]? = some (.cells #[.int .i64 0, .int .i64 0, .slice none 0 0] 26 (0, 0))) := ⟨(by rw [hw]; exact (bq_ c.1))⟩; replace d : Aside0 (X.heap[U]? = some (.cells #[.int .i64 B, .int .i64 z, A] 26 (0, 0))) := ⟨(by rw [hw]; exact (bq_ d.1))⟩; replace r : Aside0 (X.heap[M]? = some (.cells #[.int .i64 ((rd_T80 n q).f0), .slice V ((rd_T80 n q).f1).length W] 80 (0, 0))) := ⟨(by rw [hw]; exact (bq_ r.1))⟩; replace l : Aside0 (X.heap[x]? = some (.cells #[.int .i64 I, .slice Z y.length aa] 80 (0, 0))) := ⟨(by rw [hw]; exact (bp_ l.1))⟩; replace E : Aside0 (Below w.heap.size w X) := ⟨(by rw [hw]; exact (hs_ E.1))⟩; clear hw; obtain ⟨tc, uc, vc, wc⟩ := bc2_ l.1; have xc := n2_ K; have yc := n2_ L; obtain ⟨zc, Ac, Bc, Cc, Dc, Ec⟩ := bc3_ d.1; obtain ⟨db, Da, G⟩ := Kd.S_fp (Kd.S_types (Kd.S_types (Kd.S_apart' ((Kd.S_mono (u.1) (fun k_ hk => (⟨hk, fun ez_ => Nat.lt_irrefl _ (Nat.lt_of_lt_of_le ((Kd.S_R j.1).1 _ ez_.symm) hk.2)⟩ : _ ∧ some k_ ≠ (u7 : Value).ownBlock)))) (Kd.S_typed a.1) (by decide)) r.1 (by decide)) l.1 (by decide))) | ((with_reducible refine gate_builtin (b := .append) (xs := #[.tmp 35, .tmp 37]) rfl ?_); at_builtin; refine Kd.S_append k80 (w0 := w) w.heap.size rfl (.tmp 35) (.tmp 37) 24 80 (.agg #[(.int .i64 0), (.slice none 0 0)]) 32 rfl Tryz.underlying24 info80 rfl (by decide) (by omega) A m (⟨I, y⟩ : S80) [.int .i64 I, .slice Z y.length aa] (fun k_ => some k_ ≠ (u7 : Value).ownBlock ∧ some k_ ≠ (va : Value).ownBlock ∧ k_ ≠ M ∧ k_ ≠ x) (fun k_ => db k_) rfl rfl ?aP (fun k_ hk_ => ⟨⟨(G k_ hk_).1.1.1.1.2, ⟨(G k_ hk_).1.1.1.1.1.1, ⟨(G k_ hk_).1.1.2, (G k_ hk_).1.2⟩⟩⟩, (G k_ hk_).1.1.1.2⟩) ?aF ?aO ?aB ?aS ?aL ?_; (case aP => exact k80_mkM _ _ _ (⟨I, y⟩ : S80) (Kd.S_mono Da (fun _ h_ => h_))); (case aB => exact (hs_ E.1)); (case aF => exact (fun k_ hk => ⟨Kd.fresh' (Kd.S_lt (sp_ j.1)) k_ hk, Kd.fresh' (Kd.S_lt (sp_ s.1)) k_ hk, Kd.freshB (g := M) (o := .cells #[.int .i64 ((rd_T80 n q).f0), .slice V ((rd_T80 n q).f1).length W] 80 (0, 0)) (pb_ r.1) k_ hk, Kd.freshB (g := x) (o := .cells #[.int .i64 I, .slice Z y.length aa] 80 (0, 0)) (pb_ l.1) k_ hk⟩)); (case aO => exact (by (with_reducible repeat (first | apply Kd.S_alloc | apply Kd.S_drewN | apply Kd.S_drew)); exact Kd.S_mono (Kd.S_times a.1 (Kd.S_R s.1).1 (fun k_ hk hz_ => Nat.lt_irrefl _ (Nat.lt_of_lt_of_le hk.2.2.1 hz_.2))) (fun k_ hk => ⟨⟨hk.1.1, ⟨hk.2, ⟨hk.1.2.1, hk.1.2.2.2⟩⟩⟩, fun e_ => (fun ez_ => Nat.lt_irrefl _ (Nat.lt_of_lt_of_le hk.1.2.2.1 (G _ ez_).1.1.1.1.1.2)) e_⟩))); (case aS => exact (below_size (hs_ E.1))); (case aL => have := Wa.1; omega); intro wd Dd ho hb hg hat; rw [← Xa.1] at ho; replace j := M_ (Kd.S_over' (sp_ j.1) (Kd.S_typed (sp_ a.1)) (by decide) hg); replace i := bg_ i hg a; replace c := bg_ c hg a; replace d := bg_ d hg a; replace r := M_ (blk_grown (bq_ r.1) hg (Kd.S_away a.1 (fun _ hk => hk.2.1))); replace s := M_ (Kd.S_over' (sp_ s.1) (Kd.S_typed (sp_ a.1)) (by decide) hg); replace l := M_ (blk_grown (bq_ l.1) hg (Kd.S_away a.1 (fun _ hk => hk.2.2.2))); replace E := M_ (hb); have ca := M_ (ho); clear a u; clear ho hb hg hat; obtain ⟨xa, ya, xb⟩ := Kd.S_slice ca.1; subst xb; obtain ⟨Fc, Gc, Hc, Ic, Jc, Kc⟩ := bc3_ d.1; obtain ⟨yb, zb, Ab⟩ := Kd.S_slice s.1; subst Ab; obtain ⟨eb, Ea, da⟩ := Kd.S_fp (Kd.S_types ((Kd.S_mono s.1 (fun k_ hk => (⟨hk, fun ez_ => Nat.lt_irrefl _ (Nat.lt_of_lt_of_le ((Kd.S_R j.1).1 _ ez_.symm) hk.2)⟩ : _ ∧ some k_ ≠ (u7 : Value).ownBlock)))) d.1 (by decide))) | ((with_reducible refine gate_builtin (b := .append) (xs := #[.tmp 40, .tmp 41]) rfl ?_); at_builtin; refine Kd.S_append_rows k29 (w0 := w) w.heap.size rfl (.tmp 40) (.tmp 41) 40 29 (.agg #[(.slice none 0 0), (.int .i64 0), (.int .i64 0), (.string ⟨#[]⟩)]) 56 rfl Tryz.underlying40 info29 rfl (by decide) (by omega) u7 D J _ _ _ (fun _ => True) eb rfl rfl ?aR (fun k_ hk_ => ⟨trivial, (da k_ hk_).1.1.2⟩) ?aF ?aO ?aB ?aS ?aL ?_; (case aR => exact (by (with_reducible repeat (first | apply Kd.S_alloc | apply Kd.S_drewN | apply Kd.S_drew)); exact (Kd.S_far (p := ⟨U, 2, none⟩) Ea (fun k_ hk => (da k_ hk).1.2) (.slice xa Y.length ya)))); (case aB => exact (hs_ E.1)); (case aF => exact (fun _ _ => trivial)); (case aO => exact (Kd.S_mono (sy_ j.1 d.1) (fun k_ hk => ⟨trivial, fun e_ => (fun ez_ => Nat.lt_irrefl _ (Nat.lt_of_lt_of_le hk (da _ ez_).1.1.1.2)) e_⟩))); (case aS => exact (below_size (hs_ E.1))); (case aL => have := Ya.1; omega); intro xd Ed ho hb hg hat; rw [← Za.1] at ho; replace i := bg_ i hg j; replace c := bg_ c hg j; replace r := bg_ r hg j; replace l := bg_ l hg j; replace ca := M_ (Kd.S_after (ok := (fun k_ => some k_ ≠ (.slice yb J.length zb : Value).ownBlock ∧ k_ ≠ M ∧ k_ ≠ x)) (Kd.S_mono (sy_ ca.1 d.1) (fun _ hk => ⟨⟨hk.2.1, ⟨hk.2.2.1, hk.2.2.2⟩⟩, hk.1⟩)) hg hat); replace d := M_ (blk_grown (g := U) (o := .cells #[.int .i64 B, .int .i64 z, .slice xa Y.length ya] 26 (0, 0)) (bp_ d.1) hg (Kd.S_ne j.1 d.1 (by decide))); replace E := M_ (hb); have fb := M_ (ho); clear j s; clear ho hb hg hat))
     go_roundg k1
     case measure => have := Ca.1; omega
     case rel => exact ⟨(Ha), (wrap64 (q + 1)), (Y), (.slice xa Y.length ya), rs_, H', ⟨by have := Ca.1; omega⟩, ⟨sp_ fb.1⟩, ⟨Kd.S_mono (sp_ ca.1) (fun _ hk => hk.2)⟩, ⟨bq_ i.1⟩, ⟨bq_ c.1⟩, ⟨bq_ d.1⟩, ⟨hs_ E.1⟩⟩
    have Ua : decide (0 < (y.length : Int)) = false := decide_eq_false wa
    have Va : decide (0 < y.length) = false := decide_eq_false (by omega)
    clear wa
    replace H := im_ H; obtain ⟨gb, H⟩ := H
    obtain ⟨Ia, hy_⟩ : ∃ y_ : List (S29), y_ = (D ++ J) := ⟨_, rfl⟩
    replace H : (impl_SweepIn.l0 k1 a1 Ia n (n.length : Int) (wrap64 (q + 1)) B z m) = some (r1, r2, r3, r4) := hm_
    have ib := M_ hy_; clear hy_
    have H' := M_ H
    clear H
    refine ⟨?_⟩
    go_wp2_with (first | ((with_reducible refine gd_ 10 rfl ?_); refine bV_ 10 #[.int .i64 0, .slice none 0 0] 80 ?_; intro x hg Fd l hb; replace j := sb_ j hb; replace a := se_ a hg hb; obtain ⟨u, s⟩ := u2_ hb u s; have ab := gq_ hg E; have bb := gq_ hg E; replace E := st_ E hb; obtain ⟨ka, N, i⟩ := nb_ i hg hb; obtain ⟨la, O, c⟩ := nb_ c hg hb; obtain ⟨ma, P, d⟩ := nb_ d hg hb; obtain ⟨na, Q, r⟩ := nb_ r hg hb; clear hb hg; have Lc := n2_ N; have Mc := n2_ O; have Nc := n2_ P; have Oc := n2_ Q; obtain ⟨Pc, Qc, Rc, Sc⟩ := bc2_ l.1; obtain ⟨za, Aa, Bb⟩ := Kd.S_slice u.1; subst Bb; obtain ⟨Cb, Db, Eb⟩ := Kd.S_slice s.1; subst Eb; obtain ⟨jb, Fa, R⟩ := Kd.S_fp (Kd.S_types ((Kd.S_mono s.1 (fun k_ hk => (⟨hk, fun ez_ => Nat.lt_irrefl _ (Nat.lt_of_lt_of_le ((Kd.S_R j.1).1 _ ez_.symm).2 hk.2)⟩ : _ ∧ some k_ ≠ (u7 : Value).ownBlock)))) l.1 (by decide))) | ((with_reducible refine gate_builtin (b := .append) (xs := #[.tmp 40, .tmp 41]) rfl ?_); at_builtin; refine Kd.S_append_rows k29 (w0 := w) w.heap.size rfl (.tmp 40) (.tmp 41) 40 29 (.agg #[(.slice none 0 0), (.int .i64 0), (.int .i64 0), (.string ⟨#[]⟩)]) 56 rfl Tryz.underlying40 info29 rfl (by decide) (by omega) u7 D J _ _ _ (fun k_ => some k_ ≠ (.slice za y.length Aa : Value).ownBlock) jb rfl rfl ?aR (fun k_ hk_ => ⟨(R k_ hk_).1.1.1.1, (R k_ hk_).1.1.2⟩) ?aF ?aO ?aB ?aS ?aL ?_; (case aR => exact (by (with_reducible repeat (first | apply Kd.S_alloc | apply Kd.S_drewN | apply Kd.S_drew)); exact (Kd.S_far (p := ⟨x, 1, none⟩) (Kd.S_far (p := ⟨x, 0, none⟩) Fa (fun k_ hk => (R k_ hk).1.2) (.int .i64 I)) (fun k_ hk => (R k_ hk).1.2) (.slice za y.length Aa)))); (case aB => exact (hs_ E.1)); (case aF => exact (fun k_ hk => Kd.fresh' (Kd.S_lt (sy_ u.1 l.1)) k_ hk)); (case aO => exact (Kd.S_mono (sy_ (Kd.S_times j.1 (Kd.S_R u.1).1 (fun k_ hk hz_ => Nat.lt_irrefl _ (Nat.lt_of_lt_of_le hk.2 hz_.2))) l.1) (fun k_ hk => ⟨hk.2, fun e_ => (fun ez_ => Nat.lt_irrefl _ (Nat.lt_of_lt_of_le hk.1.2 (R _ ez_).1.1.1.2)) e_⟩))); (case aS => exact (below_size (hs_ E.1))); (case aL => have := gb.1; omega); intro yd Gd ho hb hg hat; rw [← ib.1] at ho; replace a := M_ (Kd.S_after (ok := (fun k_ => k_ ≠ M ∧ k_ < F ∧ k_ ≠ x)) (Kd.S_mono (sf_ x a.1 (fun _ hk => hk.2)) (fun _ hk => ⟨⟨hk.1.1.2, ⟨hk.1.2, hk.2⟩⟩, hk.1.1.1⟩)) hg hat); replace i := bg_ i hg j; replace c := bg_ c hg j; replace d := bg_ d hg j; replace r := bg_ r hg j; replace u := M_ (Kd.S_after (ok := (fun k_ => some k_ ≠ (.slice Cb J.length Db : Value).ownBlock ∧ F ≤ k_)) (Kd.S_mono (sy_ (Kd.S_times u.1 (Kd.S_R j.1).1 (fun k_ hk hz_ => Nat.lt_irrefl _ (Nat.lt_of_lt_of_le hz_.2 hk.2))) l.1) (fun _ hk => ⟨⟨hk.1.1, hk.1.2⟩, hk.2⟩)) hg hat); replace l := M_ (blk_grown (g := x) (o := .cells #[.int .i64 I, .slice za y.length Aa] 80 (0, 0)) (bp_ l.1) hg (Kd.S_ne j.1 l.1 (by decide))); replace E := M_ (hb); have kb := M_ (ho); clear j s; clear ho hb hg hat))
    go_roundg k1
    case measure => have := Ca.1; omega
    case rel => exact ⟨(Ia), (wrap64 (q + 1)), (m), (A), rs_, H', ⟨by have := Ca.1; omega⟩, ⟨Kd.S_mono (sp_ kb.1) (fun _ hk => trivial)⟩, ⟨Kd.S_mono (sp_ a.1) (fun _ hk => hk.2)⟩, ⟨bq_ i.1⟩, ⟨bq_ c.1⟩, ⟨bq_ d.1⟩, ⟨hs_ E.1⟩⟩
   have Oa : decide (q < (n.length : Int)) = false := decide_eq_false sa
   clear sa
   have AHz_ := M_ H
   clear H
   obtain ⟨zd, Ad, Fb⟩ := Kd.S_slice j.1
   subst Fb
   have Tc := n2_ K
   have Uc := n2_ L
   obtain ⟨Vc, Wc, Xc, Yc, Zc, ad⟩ := bc3_ d.1
   have bd := n2_ ga
   obtain ⟨cd, dd, ed, fd, gd, hd⟩ := bc3_ c.1
   obtain ⟨Ja, Ka, Gb⟩ := Kd.S_slice a.1
   subst Gb
   have H := AHz_.1
   clear AHz_
   replace H := ie_ H; rcases H with ⟨Ba, H⟩ | ⟨Ba, H⟩
   ·
    have lb : decide (0 < (D.length : Int)) = true := decide_eq_true Ba
    have mb : decide (0 < D.length) = true := decide_eq_true (by omega)
    clear Ba
    simp only [Option.some.injEq, Prod.mk.injEq] at H
    obtain ⟨rfl, rfl, rfl, rfl⟩ := H
    go_wp2
    refine bodyPost_ret (results_ct rfl _ _ T 26 #[.int .i64 B, .int .i64 (wrap64 (z + 1)), .slice Ja m.length Ka] (0, 0) _ rfl (bp_ c.1) Tryz.underlying26 rfl (by kernel_rfl)) rfl ?_
    exact ⟨_, _, rr_, Kd.S_mono (sf_ T (Kd.S_far (p := ⟨U, 1, none⟩) (Kd.S_types (Kd.S_types a.1 d.1 (by decide)) c.1 (by decide)) (fun _ hk => hk.1.2) (.int .i64 (wrap64 (z + 1)))) (fun _ hk => hk.2)) (fun _ hk => hk.1.1), Kd.S_mono (sf_ T (Kd.S_far (p := ⟨U, 1, none⟩) (Kd.S_types (Kd.S_types j.1 d.1 (by decide)) c.1 (by decide)) (fun _ hk => hk.1.2) (.int .i64 (wrap64 (z + 1)))) (fun _ hk => hk.2)) (fun _ hk => trivial), hs_ E.1⟩
   have lb : decide (0 < (D.length : Int)) = false := decide_eq_false Ba
   have mb : decide (0 < D.length) = false := decide_eq_false (by omega)
   clear Ba
   simp only [Option.some.injEq, Prod.mk.injEq] at H
   obtain ⟨rfl, rfl, rfl, rfl⟩ := H
   go_wp2
   refine bodyPost_ret (results_ct rfl _ _ T 26 #[.int .i64 B, .int .i64 z, .slice Ja m.length Ka] (0, 0) _ rfl (bp_ c.1) Tryz.underlying26 rfl (by kernel_rfl)) rfl ?_
   exact ⟨_, _, rr_, sy_ a.1 c.1, Kd.S_mono (sy_ j.1 c.1) (fun _ hk => trivial), hs_ E.1⟩
def spec_Over.f (b : List (S99)) (c : Int) (a : Int) (d : ByteArray) (e : Int) : Option (Bool) := some (decide (a ≤ e))
theorem spec_Over.calls (b : Option Addr) (c : Nat) (a : List (S99)) (d : Int) (g : Int) (i : ByteArray) (s : Int) (r : Bool) (w : World) (j : Kd.C k99 w b a.length a) (k : a.length ≤ c) (h : spec_Over.f a d g i s = some r) :
  Calls Tryz.prog 103 #[.agg #[.slice b a.length c, .int .i64 d, .int .i64 g, .string i], .int .i64 s] w fun e w' => e = .returned (.bool r) ∧ Below w.heap.size w w' := by
 have hu29 := Tryz.underlying29
 have n := M_ j
 have o := M_ k
 clear j k
 have m := M_ (Below.refl w.heap.size w)
 unfold spec_Over.f at h
 have H := h; clear h
 obtain rfl := Option.some.inj H
 go_enter Tryz.func103, Tryz.ntmps103
 go_wp2_with (first | ((with_reducible refine gd_ 2 rfl ?_); refine bV_ 2 #[.slice b a.length c, .int .i64 d, .int .i64 g, .string i] 29 ?_; intro p hg D l hb; have q := gq_ hg m; replace m := st_ m hb; clear hb hg; obtain ⟨t, u, v, x, y, z, A, B⟩ := bc4_ l.1))
 go_ret
 exact an_ (hs_ m.1)
def spec_DropOver.l0 : Nat → Int → List (S29) → Int → Int → List (S29) → Int → List (S29) → Option (Int × (List (S29)) × (List (S29)))
 | 0, _, _, _, _, _, _, _ => none
 | k + 1, j, i, g, e, b, d, c => if g < (b.length : Int) then (if 0 ≤ g then ((spec_l4Copy.f ((rd_T29 b g).f0) ((rd_T29 b g).f1) ((rd_T29 b g).f2) ((rd_T29 b g).f3)).bind fun a => ((spec_Over.f a.1 a.2.1 a.2.2.1 a.2.2.2 j).bind fun h => (if h = true then (if i.length < 2513169434916 then (spec_DropOver.l0 k j (i ++ [(⟨a.1, a.2.1, a.2.2.1, a.2.2.2⟩ : S29)]) (wrap64 (g + 1)) e b d c) else (none)) else (if c.length < 2513169434916 then (spec_DropOver.l0 k j i (wrap64 (g + 1)) e b d (c ++ [(⟨a.1, a.2.1, a.2.2.1, a.2.2.2⟩ : S29)])) else (none))))) else (none)) else (some (d, c, i))
def spec_DropOver.f (k : Nat) (a : Int) (b : List (S29)) (c : Int) : Option (Int × (List (S29)) × (List (S29))) := spec_DropOver.l0 k c (([] : List (S29))) 0 a b a (([] : List (S29)))
theorem spec_DropOver.calls (k : Nat) (v : Int) (T : Option Addr) (U : Nat) (t : List (S29)) (V : Int) (r1 : Int) (r2 : List (S29)) (r3 : List (S29)) (w : World) (W : Kd.C k29 w T t.length t) (X : t.length ≤ U) (h : spec_DropOver.f k v t V = some (r1, r2, r3)) :
  Calls Tryz.prog 68 #[.agg #[.int .i64 v, .slice T t.length U], .int .i64 V] w fun e w' => ∃ v1_ v2_ : Value, e = .returned (.tuple #[.agg #[.int .i64 r1, v1_], v2_]) ∧ Kd.S k29 29 w' w.heap.size (fun k_ => some k_ ≠ (v2_ : Value).ownBlock) v1_ r2 ∧ Kd.S k29 29 w' w.heap.size (fun k_ => some k_ ≠ (v1_ : Value).ownBlock) v2_ r3 ∧ Below w.heap.size w w' := by
 have hu80 := Tryz.underlying80
 have hu29 := Tryz.underlying29
 have qa := M_ W
 have Wa := M_ X
 clear W X
 have D := M_ (Below.refl w.heap.size w)
 unfold spec_DropOver.f at h
 have H := h; clear h
 obtain ⟨M, hy_⟩ : ∃ y_ : List (S29), y_ = (([] : List (S29))) := ⟨_, rfl⟩
 replace H : (spec_DropOver.l0 k V (([] : List (S29))) 0 v t v M) = some (r1, r2, r3) := hm_
 have Y := M_ hy_; clear hy_
 obtain ⟨la, hy_⟩ : ∃ y_ : List (S29), y_ = (([] : List (S29))) := ⟨_, rfl⟩
 replace H : (spec_DropOver.l0 k V la 0 v t v M) = some (r1, r2, r3) := hm_
 have Z := M_ hy_; clear hy_
 have H' := M_ H
 clear H
 go_enter Tryz.func68, Tryz.ntmps68
 go_wp2_with (first | ((with_reducible refine gd_ 2 rfl ?_); refine bV_ 2 #[.int .i64 v, .slice T t.length U] 80 ?_; intro ra hg w3 d hb; have Xa := gq_ hg D; replace D := st_ D hb; clear hb hg) | ((with_reducible refine gd_ 4 rfl ?_); refine bV_ 4 #[.int .i64 0, .slice none 0 0] 80 ?_; intro aa hg w4 i hb; have Ya := gq_ hg D; replace D := st_ D hb; obtain ⟨F, sa, d⟩ := nb_ d hg hb; clear hb hg; have sc := n2_ F; obtain ⟨tc, uc, vc, wc⟩ := bc2_ d.1) | ((with_reducible refine gd_ 12 rfl ?_); refine Kd.S_lit k29 _ 29 ?hg (N := 12) ?hd (xs := ([] : List (S29))) (inner := []) (ok := fun _ => True) (okp := fun _ => True) ?hr ?hp (fun _ hk => hk) trivial (Below.refl _ _) (Nat.le_refl _) (by simp) ?_; (case hd => rfl); (case hg => rfl); (case hr => first | (go_simp; done) | (go_simp; rfl)); (case hp => exact (Reps.none _ _)); intro xc w7 ba hb hg_ hnew_; clear hg_ hnew_; (first | rw [← Y.1] at ba | (simp only [Int.reduceToNat] at ba; rw [← Y.1] at ba)); have G := sw_ ba D; obtain ⟨d, i, D⟩ := u3_ hb d i D; clear hb ba; obtain ⟨Fa, Ga, Za⟩ := Kd.S_slice G.1; subst Za) | ((with_reducible refine gd_ 6 rfl ?_); refine bV_ 6 #[.int .i64 0, .slice none 0 0] 80 ?_; intro ta hg Gc j hb; replace G := sb_ G hb; have ab := gq_ hg D; replace D := st_ D hb; obtain ⟨J, O, d⟩ := nb_ d hg hb; obtain ⟨ua, I, i⟩ := nb_ i hg hb; clear hb hg; have bb := n2_ O; have cb := n2_ I; obtain ⟨db, eb, fb, gb⟩ := bc2_ j.1) | ((with_reducible refine gd_ 14 rfl ?_); refine Kd.S_lit k29 _ 29 ?hg (N := 14) ?hd (xs := ([] : List (S29))) (inner := []) (ok := fun _ => True) (okp := fun _ => True) ?hr ?hp (fun _ hk => hk) trivial (Below.refl _ _) (Nat.le_refl _) (by simp) ?_; (case hd => rfl); (case hg => rfl); (case hr => first | (go_simp; done) | (go_simp; rfl)); (case hp => exact (Reps.none _ _)); intro yc Hc L hb hg_ hnew_; clear hg_ hnew_; (first | rw [← Z.1] at L | (simp only [Int.reduceToNat] at L; rw [← Z.1] at L)); have va := M_ (Kd.S_lower (Kd.S_new' L (Kd.S_lt (sy_ G.1 j.1))) (below_size (hs_ D.1))); replace G := M_ (Kd.S_elder' (sy_ G.1 j.1) (Kd.S_base L) hb); obtain ⟨d, i⟩ := u2_ hb d i; replace j := by_ j #[.int .i64 v, .slice Fa M.length Ga] hb; replace D := st_ D hb; clear hb L))
 go_loopg [7, 8] k (fun kq v7 v8 w' => ∃ (K : List (S29)) (x : Int) (m : List (S29)) (p : Value), v8 = .int .i64 x ∧ Aside0 (spec_DropOver.l0 kq V K x v t v m = some (r1, r2, r3)) ∧ Aside0 (kq ≤ k) ∧ Aside0 (Kd.S k29 29 w' w.heap.size (fun k_ => some k_ ≠ (p : Value).ownBlock) v7 K) ∧ Aside0 (Kd.S k29 29 w' w.heap.size (fun k_ => some k_ ≠ (v7 : Value).ownBlock) p m) ∧ Aside0 (w'.heap[ra]? = some (.cells #[.int .i64 v, (.slice T t.length U)] 80 (0, 0))) ∧ Aside0 (w'.heap[aa]? = some (.cells #[.int .i64 0, (.slice none 0 0)] 80 (0, 0))) ∧ Aside0 (w'.heap[ta]? = some (.cells #[.int .i64 v, p] 80 (0, 0))) ∧ Aside0 (Below w.heap.size w w'))
 case atStart => exact ⟨(la), (0), (M), (.slice Fa M.length Ga), rs_, H', ⟨Nat.le_refl _⟩, ⟨Kd.S_mono (sp_ va.1) (fun _ hk => hk.2)⟩, ⟨Kd.S_mono (sp_ G.1) (fun _ hk => hk.2)⟩, ⟨bq_ d.1⟩, ⟨bq_ i.1⟩, ⟨bq_ j.1⟩, ⟨hs_ D.1⟩⟩
 case round =>
  clear H'
  obtain ⟨K, x, m, p, rfl, HA, ha, q, a, d, i, j, D⟩ := hrel
  cases gk with
  | zero => exact absurd HA.1 (by simp [spec_DropOver.l0])
  | succ k1 =>
   have H := HA.1
   clear HA
   simp only [spec_DropOver.l0] at H
   replace H := ie_ H; rcases H with ⟨ca, H⟩ | ⟨ca, H⟩
   ·
    have wa := decide_eq_true ca
    clear ca
    replace H := id_ H; obtain ⟨jb, H⟩ := H
    replace H := bi_ H; obtain ⟨⟨r, y, z, A⟩, kb, H⟩ := H; (try dsimp only at H)
    replace H := bi_ H; obtain ⟨Ac, Ha, H⟩ := H
    have AHz_ := M_ H
    clear H
    have lb := n2_ F
    have mb := n2_ J
    obtain ⟨nb, ob, pb, qb⟩ := bc2_ d.1
    obtain ⟨rb, ia, ja, Ia, Ja, Ka, La, Ma, da, ea, Bc, Cc⟩ := au_T29 qa.1 D x
    cases Ia
    go_wp2_with (first | ((with_reducible refine gate_callee (f := 63) rfl ?_); refine gl_ (some 27) Tryz.func63 #[.agg #[.slice ia ((rd_T29 t x).f0).length ja, .int .i64 ((rd_T29 t x).f1), .int .i64 ((rd_T29 t x).f2), .string ((rd_T29 t x).f3)]] ?_; (with_reducible refine (spec_l4Copy.calls _ _ ((rd_T29 t x).f0) ((rd_T29 t x).f1) ((rd_T29 t x).f2) ((rd_T29 t x).f3) r y z A _ ?_ ?_ kb.1).mono ?_); exact cp_ ((Kd.C_below ea.1 D.1)); exact da.1; rintro e Jc ⟨Dc, rfl, ka, hb⟩; refine ⟨_, rfl, ?_⟩; replace q := M_ (Kd.S_elder' (sp_ q.1) (Kd.R_base ka) hb); replace a := M_ (Kd.S_elder' (sp_ a.1) (Kd.R_base ka) hb); have s := rw_ ka D; obtain ⟨d, i, j, D⟩ := u4_ hb d i j D; (try clear hb ka)) | (((with_reducible refine gd_ 9 rfl ?_); refine bV_ 9 #[.slice none 0 0, .int .i64 0, .int .i64 0, .string (⟨#[]⟩ : ByteArray)] 29 ?_; intro u hg Kc l hb; replace q := se_ q hg hb; replace a := se_ a hg hb; replace s := rb_ s hb; have sb := gq_ hg D; replace D := st_ D hb; obtain ⟨xa, P, d⟩ := nb_ d hg hb; obtain ⟨ya, Q, i⟩ := nb_ i hg hb; obtain ⟨za, R, j⟩ := nb_ j hg hb; clear hb hg; obtain ⟨E, B, Na⟩ := Kd.R_slice s.1; subst Na; have tb := n2_ P; have ub := n2_ Q; have vb := n2_ R; obtain ⟨wb, xb, yb, zb, Ab, Bb, Cb, Db⟩ := bc4_ l.1); refine Aside0.out ?_))
    have H := AHz_.1
    clear AHz_
    replace H := ib_ H; rcases H with ⟨rfl, H⟩ | ⟨rfl, H⟩
    ·
     replace H := im_ H; obtain ⟨Aa, H⟩ := H
     obtain ⟨ma, hy_⟩ : ∃ y_ : List (S29), y_ = (K ++ [(⟨r, y, z, A⟩ : S29)]) := ⟨_, rfl⟩
     replace H : (spec_DropOver.l0 k1 V ma (wrap64 (x + 1)) v t v m) = some (r1, r2, r3) := hm_
     have Ba := M_ hy_; clear hy_
     have H' := M_ H
     clear H
     refine ⟨?_⟩
     go_wp2_with (first | ((with_reducible refine gate_callee (f := 103) rfl ?_); refine gl_ (some 30) Tryz.func103 #[.agg #[.slice E r.length B, .int .i64 y, .int .i64 z, .string A], .int .i64 V] ?_; (with_reducible refine (spec_Over.calls _ _ r y z A V true _ ?side1 ?side2 Ha.1).mono ?_); (case side1 => refine (Kd.R_reads' (e := 99) (base := w.heap.size) (ok := fun k_ => True) (n := r.length) (c := B) ?_).2.2; exact (ry_ s.1 l.1)); (case side2 => exact (Kd.R_reads' s.1).2.1); rintro e Lc ⟨rfl, hb⟩; refine ⟨_, rfl, ?_⟩; replace q := M_ (Kd.S_below (sf_ u q.1 (fun _ hk => hk.2)) hb); replace a := M_ (Kd.S_below (sf_ u a.1 (fun _ hk => hk.2)) hb); replace s := M_ (Kd.R_below (ry_ s.1 l.1) hb); obtain ⟨d, i, j⟩ := u3_ hb d i j; replace l := by_ l #[.slice E r.length B, .int .i64 y, .int .i64 z, .string A] hb; replace D := st_ D hb; (try clear hb); obtain ⟨Eb, Fb, Gb, Hb, Ib, Jb, Kb, Lb⟩ := bc4_ l.1) | ((with_reducible refine gate_builtin (b := .append) (xs := #[.tmp 31, .tmp 33]) rfl ?_); at_builtin; refine Kd.S_append k29 (w0 := w) w.heap.size rfl (.tmp 31) (.tmp 33) 40 29 (.agg #[(.slice none 0 0), (.int .i64 0), (.int .i64 0), (.string ⟨#[]⟩)]) 56 rfl Tryz.underlying40 info29 rfl (by decide) (by omega) u7 K (⟨r, y, z, A⟩ : S29) [.slice E r.length B, .int .i64 y, .int .i64 z, .string A] (fun k_ => some k_ ≠ (p : Value).ownBlock ∧ k_ ≠ u) (fun k_ => some k_ = (.slice E r.length B : Value).ownBlock) rfl rfl ?aP (fun k_ hk_ => ((Kd.R_mono (ok' := fun k_ => ((fun k_ => some k_ ≠ (p : Value).ownBlock ∧ k_ ≠ u)) k_ ∧ some k_ ≠ (u7 : Value).ownBlock) (Kd.R_types (Kd.R_apart' (Kd.R_apart' (s.1) (Kd.S_typed a.1) (by decide)) (Kd.S_typed q.1) (by decide)) l.1 (by decide)) (fun k_ hk => ⟨⟨hk.1.1.2, hk.2⟩, hk.1.2⟩))).1 k_ hk_.symm) ?aF ?aO ?aB ?aS ?aL ?_; (case aP => exact k29_mkM _ _ _ (⟨r, y, z, A⟩ : S29) (Kd.R_mono (Kd.R_tight rfl (Kd.R_mono (ok' := fun k_ => ((fun k_ => some k_ ≠ (p : Value).ownBlock ∧ k_ ≠ u)) k_ ∧ some k_ ≠ (u7 : Value).ownBlock) (Kd.R_types (Kd.R_apart' (Kd.R_apart' (s.1) (Kd.S_typed a.1) (by decide)) (Kd.S_typed q.1) (by decide)) l.1 (by decide)) (fun k_ hk => ⟨⟨hk.1.1.2, hk.2⟩, hk.1.2⟩))) (fun _ h_ => h_))); (case aB => exact (hs_ D.1)); (case aF => exact (fun k_ hk => ⟨Kd.fresh' (Kd.S_lt (sp_ a.1)) k_ hk, Kd.freshB (g := u) (o := .cells #[.slice E r.length B, .int .i64 y, .int .i64 z, .string A] 29 (0, 0)) (pb_ l.1) k_ hk⟩)); (case aO => exact (Kd.S_mono (sp_ q.1) (fun k_ hk => ⟨⟨hk.1.1, hk.2⟩, fun e_ => hk.1.2 e_⟩))); (case aS => exact (below_size (hs_ D.1))); (case aL => have := Aa.1; omega); intro Ec Mc ho hb hg hat; rw [← Ba.1] at ho; replace a := M_ (Kd.S_after (ok := (fun k_ => some k_ ≠ (.slice E r.length B : Value).ownBlock ∧ k_ ≠ u)) (Kd.S_mono (sp_ a.1) (fun _ hk => ⟨⟨hk.1.2, hk.2⟩, hk.1.1⟩)) hg hat); replace d := bg_ d hg q; replace i := bg_ i hg q; replace j := bg_ j hg q; replace l := M_ (blk_grown (bq_ l.1) hg (Kd.S_away q.1 (fun _ hk => hk.2))); replace D := M_ (hb); have Ca := M_ (ho); clear q s; clear ho hb hg hat))
     go_roundg k1
     case measure => have := ha.1; omega
     case rel => exact ⟨(ma), (wrap64 (x + 1)), (m), (p), rs_, H', ⟨by have := ha.1; omega⟩, ⟨Kd.S_mono (sp_ Ca.1) (fun _ hk => hk.1)⟩, ⟨Kd.S_mono (sp_ a.1) (fun _ hk => hk.2)⟩, ⟨bq_ d.1⟩, ⟨bq_ i.1⟩, ⟨bq_ j.1⟩, ⟨hs_ D.1⟩⟩
    replace H := im_ H; obtain ⟨Da, H⟩ := H
    obtain ⟨fa, hy_⟩ : ∃ y_ : List (S29), y_ = (m ++ [(⟨r, y, z, A⟩ : S29)]) := ⟨_, rfl⟩
    replace H : (spec_DropOver.l0 k1 V K (wrap64 (x + 1)) v t v fa) = some (r1, r2, r3) := hm_
    have Ea := M_ hy_; clear hy_
    have H' := M_ H
    clear H
    refine ⟨?_⟩
    go_wp2_with (first | ((with_reducible refine gate_callee (f := 103) rfl ?_); refine gl_ (some 30) Tryz.func103 #[.agg #[.slice E r.length B, .int .i64 y, .int .i64 z, .string A], .int .i64 V] ?_; (with_reducible refine (spec_Over.calls _ _ r y z A V false _ ?side1 ?side2 Ha.1).mono ?_); (case side1 => refine (Kd.R_reads' (e := 99) (base := w.heap.size) (ok := fun k_ => True) (n := r.length) (c := B) ?_).2.2; exact (ry_ s.1 l.1)); (case side2 => exact (Kd.R_reads' s.1).2.1); rintro e Nc ⟨rfl, hb⟩; refine ⟨_, rfl, ?_⟩; replace q := M_ (Kd.S_below (sf_ u q.1 (fun _ hk => hk.2)) hb); replace a := M_ (Kd.S_below (sf_ u a.1 (fun _ hk => hk.2)) hb); replace s := M_ (Kd.R_below (ry_ s.1 l.1) hb); obtain ⟨d, i, j⟩ := u3_ hb d i j; replace l := by_ l #[.slice E r.length B, .int .i64 y, .int .i64 z, .string A] hb; replace D := st_ D hb; (try clear hb); have Mb := n2_ I; obtain ⟨Nb, Ob, Pb, Qb⟩ := bc2_ j.1; obtain ⟨Rb, Sb, Tb, Ub, Vb, Wb, Xb, Yb⟩ := bc4_ l.1) | ((with_reducible refine gate_builtin (b := .append) (xs := #[.tmp 36, .tmp 38]) rfl ?_); at_builtin; refine Kd.S_append k29 (w0 := w) w.heap.size rfl (.tmp 36) (.tmp 38) 40 29 (.agg #[(.slice none 0 0), (.int .i64 0), (.int .i64 0), (.string ⟨#[]⟩)]) 56 rfl Tryz.underlying40 info29 rfl (by decide) (by omega) p m (⟨r, y, z, A⟩ : S29) [.slice E r.length B, .int .i64 y, .int .i64 z, .string A] (fun k_ => some k_ ≠ (u7 : Value).ownBlock ∧ k_ ≠ u) (fun k_ => some k_ = (.slice E r.length B : Value).ownBlock) rfl rfl ?aP (fun k_ hk_ => ((Kd.R_mono (ok' := fun k_ => ((fun k_ => some k_ ≠ (u7 : Value).ownBlock ∧ k_ ≠ u)) k_ ∧ some k_ ≠ (p : Value).ownBlock) (Kd.R_types (Kd.R_apart' (Kd.R_apart' (s.1) (Kd.S_typed q.1) (by decide)) (Kd.S_typed a.1) (by decide)) l.1 (by decide)) (fun k_ hk => ⟨⟨hk.1.1.2, hk.2⟩, hk.1.2⟩))).1 k_ hk_.symm) ?aF ?aO ?aB ?aS ?aL ?_; (case aP => exact k29_mkM _ _ _ (⟨r, y, z, A⟩ : S29) (Kd.R_mono (Kd.R_tight rfl (Kd.R_mono (ok' := fun k_ => ((fun k_ => some k_ ≠ (u7 : Value).ownBlock ∧ k_ ≠ u)) k_ ∧ some k_ ≠ (p : Value).ownBlock) (Kd.R_types (Kd.R_apart' (Kd.R_apart' (s.1) (Kd.S_typed q.1) (by decide)) (Kd.S_typed a.1) (by decide)) l.1 (by decide)) (fun k_ hk => ⟨⟨hk.1.1.2, hk.2⟩, hk.1.2⟩))) (fun _ h_ => h_))); (case aB => exact (hs_ D.1)); (case aF => exact (fun k_ hk => ⟨Kd.fresh' (Kd.S_lt (sp_ q.1)) k_ hk, Kd.freshB (g := u) (o := .cells #[.slice E r.length B, .int .i64 y, .int .i64 z, .string A] 29 (0, 0)) (pb_ l.1) k_ hk⟩)); (case aO => exact (Kd.S_mono (sp_ a.1) (fun k_ hk => ⟨⟨hk.1.1, hk.2⟩, fun e_ => hk.1.2 e_⟩))); (case aS => exact (below_size (hs_ D.1))); (case aL => have := Da.1; omega); intro Fc Oc ho hb hg hat; rw [← Ea.1] at ho; replace q := M_ (Kd.S_after (ok := (fun k_ => some k_ ≠ (.slice E r.length B : Value).ownBlock ∧ k_ ≠ u)) (Kd.S_mono (sp_ q.1) (fun _ hk => ⟨⟨hk.1.2, hk.2⟩, hk.1.1⟩)) hg hat); replace d := bg_ d hg a; replace i := bg_ i hg a; replace j := bg_ j hg a; replace l := M_ (blk_grown (bq_ l.1) hg (Kd.S_away a.1 (fun _ hk => hk.2))); replace D := M_ (hb); have ga := M_ (ho); clear a s; clear ho hb hg hat; obtain ⟨Pa, Qa, Ra⟩ := Kd.S_slice ga.1; subst Ra; obtain ⟨Zb, ac, bc, cc⟩ := bc2_ j.1))
    go_roundg k1
    case measure => have := ha.1; omega
    case rel => exact ⟨(K), (wrap64 (x + 1)), (fa), (.slice Pa fa.length Qa), rs_, H', ⟨by have := ha.1; omega⟩, ⟨Kd.S_mono (sy_ q.1 j.1) (fun _ hk => hk.2)⟩, ⟨Kd.S_mono (sy_ ga.1 j.1) (fun _ hk => hk.1)⟩, ⟨bq_ d.1⟩, ⟨bq_ i.1⟩, ⟨bp_ j.1⟩, ⟨hs_ D.1⟩⟩
   have wa : decide (x < (t.length : Int)) = false := decide_eq_false ca
   clear ca
   simp only [Option.some.injEq, Prod.mk.injEq] at H
   obtain ⟨rfl, rfl, rfl⟩ := H
   have dc := n2_ F
   have ec := n2_ J
   obtain ⟨fc, gc, hc, ic⟩ := bc2_ d.1
   have jc := n2_ I
   obtain ⟨kc, lc, mc, nc⟩ := bc2_ j.1
   obtain ⟨oc, pc, qc, rc⟩ := bc2_ i.1
   obtain ⟨Sa, Ta, Ua⟩ := Kd.S_slice a.1
   subst Ua
   go_wp2
   refine bodyPost_ret (results_ct rfl _ _ aa 80 #[.int .i64 v, .slice Sa m.length Ta] (0, 0) _ rfl (bp_ i.1) Tryz.underlying80 rfl (by kernel_rfl)) rfl ?_
   exact ⟨_, _, rr_, sy_ a.1 i.1, sy_ q.1 i.1, hs_ D.1⟩
def spec_SweepIn.l0 : Nat → Int → List (S29) → Int → Int → Int → List (S80) → Int → Int → List (S80) → Option (Int × Int × (List (S80)) × (List (S29)))
 | 0, _, _, _, _, _, _, _, _, _ => none
 | k + 1, m, l, j, h, d, a, c, e, b => if j < (a.length : Int) then (if 0 ≤ j then ((spec_DropOver.f k ((rd_T80 a j).f0) ((rd_T80 a j).f1) m).bind fun g => (if l.length + g.2.2.length < 2513169434916 then ((some (l ++ g.2.2 : List (S29))).bind fun i => (if (g.2.1.length : Int) > 0 then (if b.length < 4398046511104 then (spec_SweepIn.l0 k m i (wrap64 (j + 1)) h d a c e (b ++ [(⟨g.1, g.2.1⟩ : S80)])) else (none)) else (spec_SweepIn.l0 k m i (wrap64 (j + 1)) h d a c e b))) else (none))) else (none)) else (if (l.length : Int) > 0 then (some (c, wrap64 (d + 1), b, l)) else (some (c, e, b, l)))
def spec_SweepIn.f (k : Nat) (a : Int) (b : Int) (c : List (S80)) (d : Int) : Option (Int × Int × (List (S80)) × (List (S29))) := spec_SweepIn.l0 k d (([] : List (S29))) 0 a b c a b (([] : List (S80)))
theorem spec_SweepIn.calls (k : Nat) (q : Int) (m : Int) (ba : Option Addr) (ca : Nat) (r : List (S80)) (a1 : Int) (r1 : Int) (r2 : Int) (r3 : List (S80)) (r4 : List (S29)) (w : World) (ea : Kd.C k80 w ba r.length r) (fa : r.length ≤ ca) (h : spec_SweepIn.f k q m r a1 = some (r1, r2, r3, r4)) :
  Calls Tryz.prog 15 #[.agg #[.int .i64 q, .int .i64 m, .slice ba r.length ca], .int .i64 a1] w fun e w' => ∃ v2_ v3_ : Value, e = .returned (.tuple #[.agg #[.int .i64 r1, .int .i64 r2, v2_], v3_]) ∧ Kd.S k80 80 w' w.heap.size (fun k_ => some k_ ≠ (v3_ : Value).ownBlock) v2_ r3 ∧ Kd.S k29 29 w' w.heap.size (fun _ => True) v3_ r4 ∧ Below w.heap.size w w' := by
 have hu26 := Tryz.underlying26
 have hu80 := Tryz.underlying80
 have Ia := M_ ea
 have ob := M_ fa
 clear ea fa
 have y := M_ (Below.refl w.heap.size w)
 unfold spec_SweepIn.f at h
 have H := h; clear h
 obtain ⟨U, hy_⟩ : ∃ y_ : List (S80), y_ = (([] : List (S80))) := ⟨_, rfl⟩
 replace H : (spec_SweepIn.l0 k a1 (([] : List (S29))) 0 q m r q m U) = some (r1, r2, r3, r4) := hm_
 have ga := M_ hy_; clear hy_
 obtain ⟨ya, hy_⟩ : ∃ y_ : List (S29), y_ = (([] : List (S29))) := ⟨_, rfl⟩
 replace H : (spec_SweepIn.l0 k a1 ya 0 q m r q m U) = some (r1, r2, r3, r4) := hm_
 have ha := M_ hy_; clear hy_
 have H' := M_ H
 clear H
 go_enter Tryz.func15, Tryz.ntmps15
 go_wp2_with (first | ((with_reducible refine gd_ 2 rfl ?_); refine bV_ 2 #[.int .i64 q, .int .i64 m, .slice ba r.length ca] 26 ?_; intro Ja hg w3 d hb; have pb := gq_ hg y; replace y := st_ y hb; clear hb hg) | ((with_reducible refine gd_ 4 rfl ?_); refine bV_ 4 #[.int .i64 0, .int .i64 0, .slice none 0 0] 26 ?_; intro O hg w4 c hb; have qb := gq_ hg y; replace y := st_ y hb; obtain ⟨D, Ka, d⟩ := nb_ d hg hb; clear hb hg; have Mc := n2_ D; obtain ⟨Nc, Oc, Pc, Qc, Rc, Sc⟩ := bc3_ d.1) | ((with_reducible refine gd_ 15 rfl ?_); refine Kd.S_lit k80 _ 80 ?hg (N := 15) ?hd (xs := ([] : List (S80))) (inner := []) (ok := fun _ => True) (okp := fun _ => True) ?hr ?hp (fun _ hk => hk) trivial (Below.refl _ _) (Nat.le_refl _) (by simp) ?_; (case hd => rfl); (case hg => rfl); (case hr => first | (go_simp; done) | (go_simp; rfl)); (case hp => exact (Reps.none _ _)); intro Tc w7 ia hb hg_ hnew_; clear hg_ hnew_; (first | rw [← ga.1] at ia | (simp only [Int.reduceToNat] at ia; rw [← ga.1] at ia)); have F := sw_ ia y; obtain ⟨d, c, y⟩ := u3_ hb d c y; clear hb ia; obtain ⟨ab, bb, rb⟩ := Kd.S_slice F.1; subst rb) | ((with_reducible refine gd_ 6 rfl ?_); refine bV_ 6 #[.int .i64 0, .int .i64 0, .slice none 0 0] 26 ?_; intro W hg ed i hb; replace F := sb_ F hb; have sb := gq_ hg y; replace y := st_ y hb; obtain ⟨P, X, d⟩ := nb_ d hg hb; obtain ⟨La, E, c⟩ := nb_ c hg hb; clear hb hg; have tb := n2_ X; have ub := n2_ E; obtain ⟨vb, wb, xb, yb, zb, Ab⟩ := bc3_ i.1) | ((with_reducible refine gd_ 17 rfl ?_); refine Kd.S_lit k29 _ 29 ?hg (N := 17) ?hd (xs := ([] : List (S29))) (inner := []) (ok := fun _ => True) (okp := fun _ => True) ?hr ?hp (fun _ hk => hk) trivial (Below.refl _ _) (Nat.le_refl _) (by simp) ?_; (case hd => rfl); (case hg => rfl); (case hr => first | (go_simp; done) | (go_simp; rfl)); (case hp => exact (Reps.none _ _)); intro Uc fd Q hb hg_ hnew_; clear hg_ hnew_; (first | rw [← ha.1] at Q | (simp only [Int.reduceToNat] at Q; rw [← ha.1] at Q)); replace F := M_ (Kd.S_elder' (sy_ F.1 i.1) (Kd.S_base Q) hb); have Ma := sw_ Q y; obtain ⟨d, c⟩ := u2_ hb d c; replace i := by_ i #[.int .i64 q, .int .i64 m, .slice ab U.length bb] hb; replace y := st_ y hb; clear hb Q))
 go_loopg [7, 8] k (fun kq v7 v8 w' => ∃ (B : List (S29)) (x : Int) (j : List (S80)) (z : Value), v8 = .int .i64 x ∧ Aside0 (spec_SweepIn.l0 kq a1 B x q m r q m j = some (r1, r2, r3, r4)) ∧ Aside0 (kq ≤ k) ∧ Aside0 (Kd.S k29 29 w' w.heap.size (fun _ => True) v7 B) ∧ Aside0 (Kd.S k80 80 w' w.heap.size (fun k_ => some k_ ≠ (v7 : Value).ownBlock) z j) ∧ Aside0 (w'.heap[Ja]? = some (.cells #[.int .i64 q, .int .i64 m, (.slice ba r.length ca)] 26 (0, 0))) ∧ Aside0 (w'.heap[O]? = some (.cells #[.int .i64 0, .int .i64 0, (.slice none 0 0)] 26 (0, 0))) ∧ Aside0 (w'.heap[W]? = some (.cells #[.int .i64 q, .int .i64 m, z] 26 (0, 0))) ∧ Aside0 (Below w.heap.size w w'))
 case atStart => exact ⟨(ya), (0), (U), (.slice ab U.length bb), rs_, H', ⟨Nat.le_refl _⟩, ⟨sp_ Ma.1⟩, ⟨Kd.S_mono (sp_ F.1) (fun _ hk => hk.2)⟩, ⟨bq_ d.1⟩, ⟨bq_ c.1⟩, ⟨bq_ i.1⟩, ⟨hs_ y.1⟩⟩
 case round =>
  clear H'
  obtain ⟨B, x, j, z, rfl, HA, ua, n, a, d, c, i, y⟩ := hrel
  cases gk with
  | zero => exact absurd HA.1 (by simp [spec_SweepIn.l0])
  | succ k1 =>
   have H := HA.1
   clear HA
   simp only [spec_SweepIn.l0] at H
   replace H := ie_ H; rcases H with ⟨ja, H⟩ | ⟨ja, H⟩
   ·
    have Na := decide_eq_true ja
    clear ja
    replace H := id_ H; obtain ⟨Cb, H⟩ := H
    replace H := bi_ H; obtain ⟨⟨A, s, R⟩, Db, H⟩ := H; (try dsimp only at H)
    replace H := im_ H; obtain ⟨ka, H⟩ := H
    obtain ⟨V, hy_⟩ : ∃ y_ : List (S29), y_ = (B ++ R) := ⟨_, rfl⟩
    replace H : (if (s.length : Int) > 0 then (if j.length < 4398046511104 then (spec_SweepIn.l0 k1 a1 V (wrap64 (x + 1)) q m r q m (j ++ [(⟨A, s⟩ : S80)])) else (none)) else (spec_SweepIn.l0 k1 a1 V (wrap64 (x + 1)) q m r q m j)) = some (r1, r2, r3, r4) := hm_
    have la := M_ hy_; clear hy_
    have AHz_ := M_ H
    clear H
    have Eb := n2_ D
    have Fb := n2_ P
    obtain ⟨Gb, Hb, Ib, Jb, Kb, Lb⟩ := bc3_ d.1
    obtain ⟨Mb, va, wa, cb, db, eb, ma, na, Wc, Xc⟩ := au_T80 Ia.1 y x
    cases cb
    go_wp2_with (first | ((with_reducible refine gate_callee (f := 68) rfl ?_); refine gl_ (some 32) Tryz.func68 #[.agg #[.int .i64 ((rd_T80 r x).f0), .slice va ((rd_T80 r x).f1).length wa], .int .i64 a1] ?_; (with_reducible refine (spec_DropOver.calls k1 ((rd_T80 r x).f0) _ _ ((rd_T80 r x).f1) a1 A s R _ ?_ ?_ Db.1).mono ?_); exact cp_ ((Kd.C_below na.1 y.1)); exact ma.1; rintro e jd ⟨Yc, Zc, rfl, Oa, fb, hb⟩; refine ⟨_, rfl, ?_⟩; obtain ⟨L, T⟩ := Kd.S_name Oa; replace n := su_ T (sp_ n.1) hb; replace a := su_ T (sp_ a.1) hb; have t := sg_ T Oa y; have G := sg_ T fb y; obtain ⟨d, c, i, y⟩ := u4_ hb d c i y; (try clear hb Oa fb)) | (((with_reducible refine gd_ 9 rfl ?_); refine bV_ 9 #[.int .i64 0, .slice none 0 0] 80 ?_; intro v hg kd l hb; replace n := sb_ n hb; replace a := se_ a hg hb; obtain ⟨t, G⟩ := u2_ hb t G; have Nb := gq_ hg y; have Ob := gq_ hg y; replace y := st_ y hb; obtain ⟨Pa, Y, d⟩ := nb_ d hg hb; obtain ⟨Qa, Z, c⟩ := nb_ c hg hb; obtain ⟨Ra, aa, i⟩ := nb_ i hg hb; clear hb hg; have Pb := n2_ Y; have Qb := n2_ Z; have Rb := n2_ aa; obtain ⟨Sb, Tb, Ub, Vb⟩ := bc2_ l.1; obtain ⟨J, K, gb⟩ := Kd.S_slice t.1; subst gb; obtain ⟨za, Aa, ib⟩ := Kd.S_slice G.1; subst ib; obtain ⟨oa, da, u⟩ := Kd.S_fp (Kd.S_types ((Kd.S_mono G.1 (fun k_ hk => (⟨hk, fun ez_ => Nat.lt_irrefl _ (Nat.lt_of_lt_of_le ((Kd.S_R n.1).1 _ ez_.symm).2 hk.2)⟩ : _ ∧ some k_ ≠ (u7 : Value).ownBlock)))) l.1 (by decide))); refine Aside0.out ?_))
    have H := AHz_.1
    clear AHz_
    replace H := ie_ H; rcases H with ⟨pa, H⟩ | ⟨pa, H⟩
    ·
     have Sa : decide (0 < (s.length : Int)) = true := decide_eq_true pa
     have Ta : decide (0 < s.length) = true := decide_eq_true (by omega)
     clear pa
     replace H := im_ H; obtain ⟨Ua, H⟩ := H
     obtain ⟨qa, hy_⟩ : ∃ y_ : List (S80), y_ = (j ++ [(⟨A, s⟩ : S80)]) := ⟨_, rfl⟩
     replace H : (spec_SweepIn.l0 k1 a1 V (wrap64 (x + 1)) q m r q m qa) = some (r1, r2, r3, r4) := hm_
     have Va := M_ hy_; clear hy_
     have H' := M_ H
     clear H
     refine ⟨?_⟩
     go_wp2_with (first | ((with_reducible refine gate_builtin (b := .append) (xs := #[.tmp 35, .tmp 36]) rfl ?_); at_builtin; refine Kd.S_append_rows k29 (w0 := w) w.heap.size rfl (.tmp 35) (.tmp 36) 40 29 (.agg #[(.slice none 0 0), (.int .i64 0), (.int .i64 0), (.string ⟨#[]⟩)]) 56 rfl Tryz.underlying40 info29 rfl (by decide) (by omega) u7 B R _ _ _ (fun k_ => some k_ ≠ (.slice J s.length K : Value).ownBlock) oa rfl rfl ?aR (fun k_ hk_ => ⟨(u k_ hk_).1.1.1.1, (u k_ hk_).1.1.2⟩) ?aF ?aO ?aB ?aS ?aL ?_; (case aR => exact (by (with_reducible repeat (first | apply Kd.S_alloc | apply Kd.S_drewN | apply Kd.S_drew)); exact (Kd.S_far (p := ⟨v, 1, none⟩) (Kd.S_far (p := ⟨v, 0, none⟩) da (fun k_ hk => (u k_ hk).1.2) (.int .i64 A)) (fun k_ hk => (u k_ hk).1.2) (.slice J s.length K)))); (case aB => exact (hs_ y.1)); (case aF => exact (fun k_ hk => Kd.fresh' (Kd.S_lt (sy_ t.1 l.1)) k_ hk)); (case aO => exact (Kd.S_mono (sy_ (Kd.S_times n.1 (Kd.S_R t.1).1 (fun k_ hk hz_ => Nat.lt_irrefl _ (Nat.lt_of_lt_of_le hk.2 hz_.2))) l.1) (fun k_ hk => ⟨hk.2, fun e_ => (fun ez_ => Nat.lt_irrefl _ (Nat.lt_of_lt_of_le hk.1.2 (u _ ez_).1.1.1.2)) e_⟩))); (case aS => exact (below_size (hs_ y.1))); (case aL => have := ka.1; omega); intro Ba ld ho hb hg hat; rw [← la.1] at ho; replace a := M_ (Kd.S_after (ok := (fun k_ => k_ < L ∧ k_ ≠ v)) (Kd.S_mono (sf_ v a.1 (fun _ hk => hk.2)) (fun _ hk => ⟨⟨hk.1.2, hk.2⟩, hk.1.1⟩)) hg hat); replace d := bg_ d hg n; replace c := bg_ c hg n; replace i := bg_ i hg n; replace t := M_ (Kd.S_after (ok := (fun k_ => some k_ ≠ (.slice za R.length Aa : Value).ownBlock ∧ L ≤ k_)) (Kd.S_mono (sy_ (Kd.S_times t.1 (Kd.S_R n.1).1 (fun k_ hk hz_ => Nat.lt_irrefl _ (Nat.lt_of_lt_of_le hz_.2 hk.2))) l.1) (fun _ hk => ⟨⟨hk.1.1, hk.1.2⟩, hk.2⟩)) hg hat); replace l := M_ (blk_grown (g := v) (o := .cells #[.int .i64 A, .slice J s.length K] 80 (0, 0)) (bp_ l.1) hg (Kd.S_ne n.1 l.1 (by decide))); replace y := M_ (hb); have I := M_ (ho); clear n G; clear ho hb hg hat; obtain ⟨Wb, Xb, Yb, Zb⟩ := bc2_ l.1; have ac := n2_ E; obtain ⟨bc, cc, dc, ec, fc, gc⟩ := bc3_ i.1; obtain ⟨Wa, xa, M⟩ := Kd.S_fp (Kd.S_types (Kd.S_apart' (t.1) (Kd.S_typed a.1) (by decide)) l.1 (by decide))) | ((with_reducible refine gate_builtin (b := .append) (xs := #[.tmp 43, .tmp 45]) rfl ?_); at_builtin; refine Kd.S_append k80 (w0 := w) w.heap.size rfl (.tmp 43) (.tmp 45) 24 80 (.agg #[(.int .i64 0), (.slice none 0 0)]) 32 rfl Tryz.underlying24 info80 rfl (by decide) (by omega) z j (⟨A, s⟩ : S80) [.int .i64 A, .slice J s.length K] (fun k_ => some k_ ≠ (Ba : Value).ownBlock ∧ k_ ≠ v) (fun k_ => Wa k_) rfl rfl ?aP (fun k_ hk_ => ⟨⟨(M k_ hk_).1.1.1.2, (M k_ hk_).1.2⟩, (M k_ hk_).1.1.2⟩) ?aF ?aO ?aB ?aS ?aL ?_; (case aP => exact k80_mkM _ _ _ (⟨A, s⟩ : S80) (Kd.S_mono xa (fun _ h_ => h_))); (case aB => exact (hs_ y.1)); (case aF => exact (fun k_ hk => ⟨Kd.fresh' (Kd.S_lt (sp_ I.1)) k_ hk, Kd.freshB (g := v) (o := .cells #[.int .i64 A, .slice J s.length K] 80 (0, 0)) (pb_ l.1) k_ hk⟩)); (case aO => exact (Kd.S_mono (sp_ a.1) (fun k_ hk => ⟨⟨hk.2, hk.1.2⟩, fun e_ => (fun ez_ => Nat.lt_irrefl _ (Nat.lt_of_lt_of_le hk.1.1 (M _ ez_).1.1.1.1.2)) e_⟩))); (case aS => exact (below_size (hs_ y.1))); (case aL => have := Ua.1; omega); intro bd md ho hb hg hat; rw [← Va.1] at ho; replace d := bg_ d hg a; replace c := bg_ c hg a; replace i := bg_ i hg a; replace l := M_ (blk_grown (bq_ l.1) hg (Kd.S_away a.1 (fun _ hk => hk.1.2))); replace I := M_ (Kd.S_over' (sp_ I.1) (Kd.S_typed (sp_ a.1)) (by decide) hg); replace y := M_ (hb); have ra := M_ (ho); clear a t; clear ho hb hg hat; obtain ⟨jb, kb, lb⟩ := Kd.S_slice ra.1; subst lb; obtain ⟨hc, ic, jc, kc, lc, mc⟩ := bc3_ i.1))
     go_roundg k1
     case measure => have := ua.1; omega
     case rel => exact ⟨(V), (wrap64 (x + 1)), (qa), (.slice jb qa.length kb), rs_, H', ⟨by have := ua.1; omega⟩, ⟨Kd.S_mono (sy_ I.1 i.1) (fun _ hk => trivial)⟩, ⟨Kd.S_mono (sy_ ra.1 i.1) (fun _ hk => hk.1)⟩, ⟨bq_ d.1⟩, ⟨bq_ c.1⟩, ⟨bp_ i.1⟩, ⟨hs_ y.1⟩⟩
    have Sa : decide (0 < (s.length : Int)) = false := decide_eq_false pa
    have Ta : decide (0 < s.length) = false := decide_eq_false (by omega)
    clear pa
    have H' := M_ H
    clear H
    refine ⟨?_⟩
    go_wp2_with (first | ((with_reducible refine gate_builtin (b := .append) (xs := #[.tmp 35, .tmp 36]) rfl ?_); at_builtin; refine Kd.S_append_rows k29 (w0 := w) w.heap.size rfl (.tmp 35) (.tmp 36) 40 29 (.agg #[(.slice none 0 0), (.int .i64 0), (.int .i64 0), (.string ⟨#[]⟩)]) 56 rfl Tryz.underlying40 info29 rfl (by decide) (by omega) u7 B R _ _ _ (fun k_ => some k_ ≠ (.slice J s.length K : Value).ownBlock) oa rfl rfl ?aR (fun k_ hk_ => ⟨(u k_ hk_).1.1.1.1, (u k_ hk_).1.1.2⟩) ?aF ?aO ?aB ?aS ?aL ?_; (case aR => exact (by (with_reducible repeat (first | apply Kd.S_alloc | apply Kd.S_drewN | apply Kd.S_drew)); exact (Kd.S_far (p := ⟨v, 1, none⟩) (Kd.S_far (p := ⟨v, 0, none⟩) da (fun k_ hk => (u k_ hk).1.2) (.int .i64 A)) (fun k_ hk => (u k_ hk).1.2) (.slice J s.length K)))); (case aB => exact (hs_ y.1)); (case aF => exact (fun k_ hk => Kd.fresh' (Kd.S_lt (sy_ t.1 l.1)) k_ hk)); (case aO => exact (Kd.S_mono (sy_ (Kd.S_times n.1 (Kd.S_R t.1).1 (fun k_ hk hz_ => Nat.lt_irrefl _ (Nat.lt_of_lt_of_le hk.2 hz_.2))) l.1) (fun k_ hk => ⟨hk.2, fun e_ => (fun ez_ => Nat.lt_irrefl _ (Nat.lt_of_lt_of_le hk.1.2 (u _ ez_).1.1.1.2)) e_⟩))); (case aS => exact (below_size (hs_ y.1))); (case aL => have := ka.1; omega); intro Ba nd ho hb hg hat; rw [← la.1] at ho; replace a := M_ (Kd.S_after (ok := (fun k_ => k_ < L ∧ k_ ≠ v)) (Kd.S_mono (sf_ v a.1 (fun _ hk => hk.2)) (fun _ hk => ⟨⟨hk.1.2, hk.2⟩, hk.1.1⟩)) hg hat); replace d := bg_ d hg n; replace c := bg_ c hg n; replace i := bg_ i hg n; replace t := M_ (Kd.S_after (ok := (fun k_ => some k_ ≠ (.slice za R.length Aa : Value).ownBlock ∧ L ≤ k_)) (Kd.S_mono (sy_ (Kd.S_times t.1 (Kd.S_R n.1).1 (fun k_ hk hz_ => Nat.lt_irrefl _ (Nat.lt_of_lt_of_le hz_.2 hk.2))) l.1) (fun _ hk => ⟨⟨hk.1.1, hk.1.2⟩, hk.2⟩)) hg hat); replace l := M_ (blk_grown (g := v) (o := .cells #[.int .i64 A, .slice J s.length K] 80 (0, 0)) (bp_ l.1) hg (Kd.S_ne n.1 l.1 (by decide))); replace y := M_ (hb); have I := M_ (ho); clear n G; clear ho hb hg hat; obtain ⟨nc, oc, pc, qc⟩ := bc2_ l.1))
    go_roundg k1
    case measure => have := ua.1; omega
    case rel => exact ⟨(V), (wrap64 (x + 1)), (j), (z), rs_, H', ⟨by have := ua.1; omega⟩, ⟨Kd.S_mono (sp_ I.1) (fun _ hk => trivial)⟩, ⟨Kd.S_mono (sp_ a.1) (fun _ hk => hk.2)⟩, ⟨bq_ d.1⟩, ⟨bq_ c.1⟩, ⟨bq_ i.1⟩, ⟨hs_ y.1⟩⟩
   have Na : decide (x < (r.length : Int)) = false := decide_eq_false ja
   clear ja
   have AHz_ := M_ H
   clear H
   have rc := n2_ D
   have sc := n2_ P
   obtain ⟨tc, uc, vc, wc, xc, yc⟩ := bc3_ d.1
   obtain ⟨cd, dd, mb⟩ := Kd.S_slice n.1
   subst mb
   have zc := n2_ E
   obtain ⟨Ac, Bc, Cc, Dc, Ec, Fc⟩ := bc3_ i.1
   obtain ⟨Gc, Hc, Ic, Jc, Kc, Lc⟩ := bc3_ c.1
   obtain ⟨Ca, Da, nb⟩ := Kd.S_slice a.1
   subst nb
   have H := AHz_.1
   clear AHz_
   replace H := ie_ H; rcases H with ⟨sa, H⟩ | ⟨sa, H⟩
   ·
    have Xa : decide (0 < (B.length : Int)) = true := decide_eq_true sa
    have Ya : decide (0 < B.length) = true := decide_eq_true (by omega)
    clear sa
    simp only [Option.some.injEq, Prod.mk.injEq] at H
    obtain ⟨rfl, rfl, rfl, rfl⟩ := H
    go_wp2
    refine bodyPost_ret (results_ct rfl _ _ O 26 #[.int .i64 q, .int .i64 (wrap64 (m + 1)), .slice Ca j.length Da] (0, 0) _ rfl (bp_ c.1) Tryz.underlying26 rfl (by kernel_rfl)) rfl ?_
    exact ⟨_, _, rr_, Kd.S_mono (sf_ O (Kd.S_far (p := ⟨W, 1, none⟩) (Kd.S_types (Kd.S_types a.1 i.1 (by decide)) c.1 (by decide)) (fun _ hk => hk.1.2) (.int .i64 (wrap64 (m + 1)))) (fun _ hk => hk.2)) (fun _ hk => hk.1.1), Kd.S_mono (sf_ O (Kd.S_far (p := ⟨W, 1, none⟩) (Kd.S_types (Kd.S_types n.1 i.1 (by decide)) c.1 (by decide)) (fun _ hk => hk.1.2) (.int .i64 (wrap64 (m + 1)))) (fun _ hk => hk.2)) (fun _ hk => trivial), hs_ y.1⟩
   have Xa : decide (0 < (B.length : Int)) = false := decide_eq_false sa
   have Ya : decide (0 < B.length) = false := decide_eq_false (by omega)
   clear sa
   simp only [Option.some.injEq, Prod.mk.injEq] at H
   obtain ⟨rfl, rfl, rfl, rfl⟩ := H
   go_wp2
   refine bodyPost_ret (results_ct rfl _ _ O 26 #[.int .i64 q, .int .i64 m, .slice Ca j.length Da] (0, 0) _ rfl (bp_ c.1) Tryz.underlying26 rfl (by kernel_rfl)) rfl ?_
   exact ⟨_, _, rr_, sy_ a.1 c.1, Kd.S_mono (sy_ n.1 c.1) (fun _ hk => trivial), hs_ y.1⟩
def spec_DrawPartOk.f (k : Nat) (g : List Int) : Option (Int × Int × (List (S80)) × Int × Int) := (spec_l1New.f k g).bind fun b => ((spec_l1Below.f b.1 b.2.1 b.2.2 3).bind fun c => ((spec_l1Below.f b.1 c.2.1 c.2.2 (wrap64 (1 + c.1))).bind fun d => ((spec_l7Any.f k b.1 d.2.1 d.2.2 d.1 (wrap64 (1 + c.1))).bind fun a => ((spec_l1Once.f b.1 a.2.2.2.1 a.2.2.2.2 8).bind fun e => (if e.1 = true then (some (a.1, a.2.1, a.2.2.1, d.1, wrap64 ((wrap64 (1 + c.1)) + 1))) else (some (a.1, a.2.1, a.2.2.1, d.1, wrap64 (1 + c.1))))))))
theorem spec_DrawPartOk.calls (k : Nat) (T : Option Addr) (U : Nat) (G : List Int) (r1 : Int) (r2 : Int) (r3 : List (S80)) (r4 : Int) (r5 : Int) (w : World) (L : Kd.C (Kd.int .u8) w T G.length G) (M : G.length ≤ U) (h : spec_DrawPartOk.f k G = some (r1, r2, r3, r4, r5)) :
  Calls Tryz.prog 16 #[.slice T G.length U] w fun e w' => ∃ v2_ : Value, e = .returned (.tuple #[.agg #[.int .i64 r1, .int .i64 r2, v2_], .int .i64 r4, .int .i64 r5]) ∧ Kd.S k80 80 w' w.heap.size (fun _ => True) v2_ r3 ∧ Below w.heap.size w w' := by
 have hu26 := Tryz.underlying26
 have V := M_ L
 have W := M_ M
 clear L M
 have i := M_ (Below.refl w.heap.size w)
 unfold spec_DrawPartOk.f at h
 have H := h; clear h
 replace H := bi_ H; obtain ⟨⟨d, z, A⟩, A2, H⟩ := H; (try dsimp only at H)
 replace H := bi_ H; obtain ⟨⟨j, B, D⟩, A3, H⟩ := H; (try dsimp only at H)
 replace H := bi_ H; obtain ⟨⟨u, E, F⟩, A4, H⟩ := H; (try dsimp only at H)
 replace H := bi_ H; obtain ⟨⟨p, q, r, s, t⟩, A5, H⟩ := H; (try dsimp only at H)
 replace H := bi_ H; obtain ⟨⟨N, O, P⟩, A6, H⟩ := H; (try dsimp only at H)
 have AHz_ := M_ H
 clear H
 go_enter Tryz.func16, Tryz.ntmps16
 go_wp2_with (first | ((with_reducible refine gd_ 2 rfl ?_); refine bV_ 2 #[.int .i64 0, .int .i64 0, .slice none 0 0] 26 ?_; intro v hg w8 a hb; have X := gq_ hg i; replace i := st_ i hb; clear hb hg) | ((with_reducible refine gate_callee (f := 50) rfl ?_); refine gl_ (some 10) Tryz.func50 #[.slice T G.length U] ?_; (with_reducible refine (spec_l1New.calls k _ _ G d z A w _ ?_ ?_ ?_ A2.1).mono ?_); exact hs_ i.1; exact V.1; exact W.1; rintro e w9 ⟨g961, rfl, hi, hb, hb2⟩; refine ⟨_, rfl, ?_⟩; replace i := M_ (hb); have b := M_ (hi); have I := Ne_.mk (IsS102.ne_blk hi (bb_ a.1 hb2) (by decide)); have l := Ne_.mk (Ne.symm (IsS102.ne_blk hi (bb_ a.1 hb2) (by decide))); replace a := M_ (bb_ a.1 hb2); (try clear hb); (try clear hb2); (try clear hi)) | ((with_reducible refine gate_callee (f := 69) rfl ?_); refine gl_ (some 12) Tryz.func69 #[.pointer (some ⟨g961, 0, none⟩), .int .i64 3] ?_; (with_reducible refine (spec_l1Below.calls g961 d z A 3 j B D w _ ?_ ?_ A3.1).mono ?_); exact IsS102.pk_ b.1; exact hs_ i.1; rintro e Fa ⟨rfl, hi, hb, hk⟩; refine ⟨_, rfl, ?_⟩; replace a := kb_ hk a; replace i := M_ (hb); replace b := M_ (hi); (try clear hb); (try clear hb2); (try clear hk hi)) | ((with_reducible refine gate_callee (f := 69) rfl ?_); refine gl_ (some 16) Tryz.func69 #[.pointer (some ⟨g961, 0, none⟩), .int .i64 (wrap64 (1 + j))] ?_; (with_reducible refine (spec_l1Below.calls g961 d B D (wrap64 (1 + j)) u E F w _ ?_ ?_ A4.1).mono ?_); exact IsS102.pk_ b.1; exact hs_ i.1; rintro e Ga ⟨rfl, hi, hb, hk⟩; refine ⟨_, rfl, ?_⟩; replace a := kb_ hk a; replace i := M_ (hb); replace b := M_ (hi); (try clear hb); (try clear hb2); (try clear hk hi)) | ((with_reducible refine gate_callee (f := 51) rfl ?_); refine gl_ (some 20) Tryz.func51 #[.pointer (some ⟨g961, 0, none⟩), .int .i64 u, .int .i64 (wrap64 (1 + j))] ?_; (with_reducible refine (spec_l7Any.calls k g961 d E F u (wrap64 (1 + j)) p q r s t w _ ?_ ?_ A5.1).mono ?_); exact IsS102.pk_ b.1; exact hs_ i.1; rintro e Ha ⟨za, rfl, Q, hi, hb, hk⟩; refine ⟨_, rfl, ?_⟩; replace a := kb_ hk a; have c := sw_ Q i; replace i := M_ (hb); replace b := M_ (hi); (try clear hb); (try clear hb2); (try clear hk hi Q)) | ((with_reducible refine gd_ 8 rfl ?_); refine bV_ 8 #[.int .i64 0, .int .i64 0, .slice none 0 0] 26 ?_; intro J hg Ia g hb; replace c := sb_ c hb; have Y := gq_ hg i; replace i := st_ i hb; obtain ⟨K, m, a⟩ := nb_ a hg hb; have n := Ne_.mk ((by rw [hg]; exact Nat.ne_of_lt (IsS102.lt (show IsS102 w _ g961 d s t from IsS102.pk_ b.1)) : g961 ≠ J)); replace b := IsS102.bk_ b hb; have o := ns_ n; clear hb hg; have Z := n2_ m; have aa := n2_ o; obtain ⟨ba, ca, da, ea, fa, ga⟩ := bc3_ g.1; obtain ⟨x, y, R⟩ := Kd.S_slice c.1; subst R) | (((with_reducible refine gate_callee (f := 70) rfl ?_); refine gl_ (some 22) Tryz.func70 #[.pointer (some ⟨g961, 0, none⟩), .int .i64 8] ?_; (with_reducible refine (spec_l1Once.calls g961 d s t 8 N O P w _ ?_ ?_ A6.1).mono ?_); exact IsS102.pk_ b.1; exact hs_ i.1; rintro e Ja ⟨rfl, hi, hb, hk⟩; refine ⟨_, rfl, ?_⟩; replace a := kc_ hk a #[.int .i64 0, .int .i64 0, .slice none 0 0]; replace c := M_ (Kd.S_mono (Kd.S_keep (IsS102.apartS (show IsS102 w _ g961 d s t from IsS102.pk_ b.1) (sy_ c.1 g.1) (by decide)) hk (fun _ h => h.2)) (fun _ h => h.1)); replace g := kc_ hk g #[.int .i64 p, .int .i64 q, .slice x r.length y]; replace i := M_ (hb); replace b := M_ (hi); (try clear hb); (try clear hb2); (try clear hk hi); obtain ⟨ha, ia, ja, ka, la, ma⟩ := bc3_ g.1; have na := n2_ l; obtain ⟨oa, pa, qa, ra, sa, ta⟩ := bc3_ a.1); refine Aside0.out ?_))
 have H := AHz_.1
 clear AHz_
 replace H := ib_ H; rcases H with ⟨rfl, H⟩ | ⟨rfl, H⟩
 ·
  simp only [Option.some.injEq, Prod.mk.injEq] at H
  obtain ⟨rfl, rfl, rfl, rfl, rfl⟩ := H
  refine ⟨?_⟩
  go_wp2
  refine bodyPost_ret (results_ctt rfl _ _ v 26 #[.int .i64 p, .int .i64 q, .slice x r.length y] (0, 0) _ rfl (bp_ a.1) Tryz.underlying26 rfl (by kernel_rfl)) rfl ?_
  exact ⟨_, rr_, Kd.S_mono (sy_ c.1 a.1) (fun _ hk => trivial), hs_ i.1⟩
 simp only [Option.some.injEq, Prod.mk.injEq] at H
 obtain ⟨rfl, rfl, rfl, rfl, rfl⟩ := H
 refine ⟨?_⟩
 go_wp2
 refine bodyPost_ret (results_ctt rfl _ _ v 26 #[.int .i64 p, .int .i64 q, .slice x r.length y] (0, 0) _ rfl (bp_ a.1) Tryz.underlying26 rfl (by kernel_rfl)) rfl ?_
 exact ⟨_, rr_, Kd.S_mono (sy_ c.1 a.1) (fun _ hk => trivial), hs_ i.1⟩
def spec_DrawSamePart.f (k : Nat) (g : List Int) : Option (Int × Int × (List (S80)) × Int × Int × (List (S80))) := (spec_l1New.f k g).bind fun b => ((spec_l7Any.f k b.1 b.2.1 b.2.2 0 1).bind fun a => ((spec_l1Once.f b.1 a.2.2.2.1 a.2.2.2.2 2).bind fun d => (if d.1 = true then ((spec_l7Copy.f k a.1 a.2.1 a.2.2.1).bind fun e => (some (a.1, a.2.1, a.2.2.1, e.1, e.2.1, e.2.2))) else ((spec_l7Any.f k b.1 d.2.1 d.2.2 0 1).bind fun c => (some (a.1, a.2.1, a.2.2.1, c.1, c.2.1, c.2.2.1))))))
theorem spec_DrawSamePart.calls (k : Nat) (A0 : Option Addr) (c0 : Nat) (l0 : List Int) (r1 : Int) (r2 : Int) (r3 : List (S80)) (r4 : Int) (r5 : Int) (r6 : List (S80)) (w : World) (na : Kd.C (Kd.int .u8) w A0 l0.length l0) (oa : l0.length ≤ c0) (h : spec_DrawSamePart.f k l0 = some (r1, r2, r3, r4, r5, r6)) :
  Calls Tryz.prog 17 #[.slice A0 l0.length c0] w fun e w' => ∃ v2_ v5_ : Value, e = .returned (.tuple #[.agg #[.int .i64 r1, .int .i64 r2, v2_], .agg #[.int .i64 r4, .int .i64 r5, v5_]]) ∧ Kd.S k80 80 w' w.heap.size (fun k_ => some k_ ≠ (v5_ : Value).ownBlock) v2_ r3 ∧ Kd.S k80 80 w' w.heap.size (fun k_ => some k_ ≠ (v2_ : Value).ownBlock) v5_ r6 ∧ Below w.heap.size w w' := by
 have hu26 := Tryz.underlying26
 have vb := M_ na
 have wb := M_ oa
 clear na oa
 have E := M_ (Below.refl w.heap.size w)
 unfold spec_DrawSamePart.f at h
 have H := h; clear h
 replace H := bi_ H; obtain ⟨⟨F, Z, aa⟩, A2, H⟩ := H; (try dsimp only at H)
 replace H := bi_ H; obtain ⟨⟨x, y, z, M, O⟩, A3, H⟩ := H; (try dsimp only at H)
 replace H := bi_ H; obtain ⟨⟨pa, U, V⟩, A4, H⟩ := H; (try dsimp only at H)
 have AHz_ := M_ H
 clear H
 go_enter Tryz.func17, Tryz.ntmps17
 go_wp2_with (first | ((with_reducible refine gd_ 2 rfl ?_); refine bV_ 2 #[.int .i64 0, .int .i64 0, .slice none 0 0] 26 ?_; intro l hg w7 a hb; have xb := gq_ hg E; replace E := st_ E hb; clear hb hg) | ((with_reducible refine gd_ 3 rfl ?_); refine bV_ 3 #[.int .i64 0, .int .i64 0, .slice none 0 0] 26 ?_; intro u hg w8 b hb; have yb := gq_ hg E; replace E := st_ E hb; obtain ⟨c, d, a⟩ := nb_ a hg hb; clear hb hg) | ((with_reducible refine gate_callee (f := 50) rfl ?_); refine gl_ (some 7) Tryz.func50 #[.slice A0 l0.length c0] ?_; (with_reducible refine (spec_l1New.calls k _ _ l0 F Z aa w _ ?_ ?_ ?_ A2.1).mono ?_); exact hs_ E.1; exact vb.1; exact wb.1; rintro e w9 ⟨g984, rfl, hi, hb, hb2⟩; refine ⟨_, rfl, ?_⟩; replace E := M_ (hb); have m := M_ (hi); have ha := Ne_.mk (IsS102.ne_blk hi (bb_ a.1 hb2) (by decide)); have ia := Ne_.mk (Ne.symm (IsS102.ne_blk hi (bb_ a.1 hb2) (by decide))); replace a := M_ (bb_ a.1 hb2); have ja := Ne_.mk (IsS102.ne_blk hi (bb_ b.1 hb2) (by decide)); have ka := Ne_.mk (Ne.symm (IsS102.ne_blk hi (bb_ b.1 hb2) (by decide))); replace b := M_ (bb_ b.1 hb2); (try clear hb); (try clear hb2); (try clear hi)) | ((with_reducible refine gate_callee (f := 51) rfl ?_); refine gl_ (some 9) Tryz.func51 #[.pointer (some ⟨g984, 0, none⟩), .int .i64 0, .int .i64 1] ?_; (with_reducible refine (spec_l7Any.calls k g984 F Z aa 0 1 x y z M O w _ ?_ ?_ A3.1).mono ?_); exact IsS102.pk_ m.1; exact hs_ E.1; rintro e uc ⟨dc, rfl, G, hi, hb, hk⟩; refine ⟨_, rfl, ?_⟩; replace a := kb_ hk a; replace b := kb_ hk b; have j := sw_ G E; replace E := M_ (hb); replace m := M_ (hi); (try clear hb); (try clear hb2); (try clear hk hi G)) | ((with_reducible refine gd_ 5 rfl ?_); refine bV_ 5 #[.int .i64 0, .int .i64 0, .slice none 0 0] 26 ?_; intro D hg vc o hb; replace j := sb_ j hb; have zb := gq_ hg E; replace E := st_ E hb; obtain ⟨s, q, a⟩ := nb_ a hg hb; obtain ⟨t, r, b⟩ := nb_ b hg hb; have I := Ne_.mk ((by rw [hg]; exact Nat.ne_of_lt (IsS102.lt (show IsS102 w _ g984 F M O from IsS102.pk_ m.1)) : g984 ≠ D)); replace m := IsS102.bk_ m hb; have J := ns_ I; clear hb hg; have Ab := n2_ q; have Bb := n2_ r; have Cb := n2_ J; obtain ⟨Db, Eb, Fb, Gb, Hb, Ib⟩ := bc3_ o.1; obtain ⟨A, B, qa⟩ := Kd.S_slice j.1; subst qa) | (((with_reducible refine gate_callee (f := 70) rfl ?_); refine gl_ (some 11) Tryz.func70 #[.pointer (some ⟨g984, 0, none⟩), .int .i64 2] ?_; (with_reducible refine (spec_l1Once.calls g984 F M O 2 pa U V w _ ?_ ?_ A4.1).mono ?_); exact IsS102.pk_ m.1; exact hs_ E.1; rintro e ra ⟨rfl, hi, hb, hk⟩; refine ⟨_, rfl, ?_⟩; replace a := kc_ hk a #[.int .i64 0, .int .i64 0, .slice none 0 0]; replace b := kc_ hk b #[.int .i64 0, .int .i64 0, .slice none 0 0]; replace j := M_ (Kd.S_mono (Kd.S_keep (IsS102.apartS (show IsS102 w _ g984 F M O from IsS102.pk_ m.1) (sy_ j.1 o.1) (by decide)) hk (fun _ h => h.2)) (fun _ h => h.1)); replace o := kc_ hk o #[.int .i64 x, .int .i64 y, .slice A z.length B]; replace E := M_ (hb); replace m := M_ (hi); (try clear hb); (try clear hb2); (try clear hk hi)); refine Aside0.out ?_))
 have H := AHz_.1
 clear AHz_
 replace H := ib_ H; rcases H with ⟨rfl, H⟩ | ⟨rfl, H⟩
 ·
  replace H := bi_ H; obtain ⟨⟨ba, ca, da⟩, A6, H⟩ := H; (try dsimp only at H)
  simp only [Option.some.injEq, Prod.mk.injEq] at H
  obtain ⟨rfl, rfl, rfl, rfl, rfl, rfl⟩ := H
  refine ⟨?_⟩
  try go_wp2
  obtain ⟨j, a, b, o⟩ := y4_ j a b o
  replace m := M_ (IsS102.drew m.1)
  replace E := db_ E
  refine start_ (n := 5) (S := fun w' => c_ w' D 0 (.int .i64 x) ∧ c_ w' D 1 (.int .i64 y) ∧ c_ w' D 2 (.slice A z.length B)) (ds := []) (b_ 0 5) (by kernel_rfl) rfl rfl (e3_ o.1) (fun g => ?_)
  generalize ra.drew = xc at j a b o m E g ⊢
  refine take_ (i := 0) (N := some 12) (v := ?_) (a' := ?_) (b_ 1 4) rfl rfl (by kernel_rfl) (fun _ _ _ h => h) (Or.inl ⟨by rfl, ?_⟩) g ?_ ?_
  rotate_left
  ·
   rintro w' ⟨s0, s1, s2⟩
   go_simp
   with_reducible rfl
  rotate_left
  ·
   simp only [fr_]
   rfl
  refine take_ (i := 1) (N := some 13) (v := ?_) (a' := ?_) (b_ 2 3) rfl rfl (by kernel_rfl) (fun _ _ _ h => h) (Or.inl ⟨by rfl, ?_⟩) g ?_ ?_
  rotate_left
  ·
   rintro w' ⟨s0, s1, s2⟩
   go_simp
   with_reducible rfl
  rotate_left
  ·
   simp only [fr_]
   rfl
  refine one_ (i := 2) (N := some 14) (b_ 3 2) rfl rfl (by kernel_rfl) (by decide) (fun K L => ?_)
  refine gs_ Tryz.func59 #[.agg #[.int .i64 x, .int .i64 y, .slice A z.length B]] ?_
  with_reducible refine (spec_l7Copy.calls k x y _ _ z ba ca da _ ?_ ?_ A6.1).mono ?_
  exact cp_ ((Kd.S_reads' j.1).2.2)
  exact (Kd.S_reads' j.1).2.1
  rintro e R ⟨ec, rfl, G, hb⟩
  refine ⟨_, rfl, ?_⟩
  have P := M_ (Kd.S_lower (Kd.S_new' G (Kd.S_lt (sp_ j.1))) (below_size (hs_ E.1)))
  replace j := M_ (Kd.S_elder' (sp_ j.1) (Kd.S_base G) hb)
  obtain ⟨a, b⟩ := u2_ hb a b
  replace m := IsS102.bk_ m hb
  obtain ⟨o, E⟩ := u2_ hb o E
  (try clear hb)
  (try clear hb2)
  (try clear G)
  obtain ⟨sa, ta, ea⟩ := Kd.S_slice P.1
  (first | subst ea | (obtain ⟨rfl, rfl⟩ := si_ ea))
  refine ho_ L (e3_ o.1) (fun g => ?_)
  refine one_ (i := 3) (N := none) (b_ 4 1) rfl rfl (by kernel_rfl) (by decide) (fun K L => ?_)
  have fc : R.cell? ⟨l, 0, none⟩ = some (.int .i64 0) := bx_ a.1 0
  have Jb := blk_frozen a.1 0
  have ua := d.1
  have va := q.1
  have wa := c.1
  have xa := s.1
  have gc : R.cell? ⟨l, 1, none⟩ = some (.int .i64 0) := bx_ a.1 1
  have Kb := blk_frozen a.1 1
  have ya := d.1
  have za := q.1
  have Aa := c.1
  have Ba := s.1
  have hc : R.cell? ⟨l, 2, none⟩ = some (.slice none 0 0) := bx_ a.1 2
  have Lb := blk_frozen a.1 2
  have Ca := d.1
  have Da := q.1
  have Ea := c.1
  have Fa := s.1
  refine skip_ (w1 := ?_) (by rfl) rfl ?_ ?_
  rotate_left
  ·
   go_simp
   rfl
  refine L.out _ _ ⟨(cg_ (g.1)), (cg_ (g.2.1)), (cg_ (g.2.2))⟩ (fun g => ?_)
  clear L K
  refine one_ (i := 4) (N := none) (b_ 5 0) rfl rfl (by kernel_rfl) (by decide) (fun K L => ?_)
  have ic : R.cell? ⟨u, 0, none⟩ = some (.int .i64 0) := bx_ b.1 0
  have Mb := blk_frozen b.1 0
  have Ga := c.1
  have Ha := r.1
  have Ia := d.1
  have Ja := t.1
  have jc : R.cell? ⟨u, 1, none⟩ = some (.int .i64 0) := bx_ b.1 1
  have Nb := blk_frozen b.1 1
  have Ka := c.1
  have La := r.1
  have Ma := d.1
  have Na := t.1
  have kc : R.cell? ⟨u, 2, none⟩ = some (.slice none 0 0) := bx_ b.1 2
  have Ob := blk_frozen b.1 2
  have Oa := c.1
  have Pa := r.1
  have Qa := d.1
  have Ra := t.1
  refine skip_ (w1 := ?_) (by rfl) rfl ?_ ?_
  rotate_left
  ·
   go_simp
   rfl
  refine L.out _ _ ⟨(cg_ (g.1)), (cg_ (g.2.1)), (cg_ (g.2.2))⟩ (fun g => ?_)
  clear L K
  refine done_ (by kernel_rfl) ?_
  try go_wp2
  refine bodyPost_ret (results_cc rfl _ _ l u 26 26 #[.int .i64 x, .int .i64 y, .slice A z.length B] #[.int .i64 ba, .int .i64 ca, .slice sa da.length ta] (0, 0) (0, 0) _ _ rfl (bp_ a.1) Tryz.underlying26 rfl (by kernel_rfl) rfl (bp_ b.1) Tryz.underlying26 rfl (by kernel_rfl)) rfl ?_
  exact ⟨_, _, rr_, Kd.S_mono (sf_ u (Kd.S_far (p := ⟨l, 2, none⟩) (Kd.S_far (p := ⟨l, 1, none⟩) (Kd.S_far (p := ⟨l, 0, none⟩) (Kd.S_types (Kd.S_types j.1 a.1 (by decide)) b.1 (by decide)) (fun _ hk => hk.1.2) (.int .i64 x)) (fun _ hk => hk.1.2) (.int .i64 y)) (fun _ hk => hk.1.2) (.slice A z.length B)) (fun _ hk => hk.2)) (fun _ hk => hk.1.1.2), Kd.S_mono (sf_ u (Kd.S_far (p := ⟨l, 2, none⟩) (Kd.S_far (p := ⟨l, 1, none⟩) (Kd.S_far (p := ⟨l, 0, none⟩) (Kd.S_types (Kd.S_types P.1 a.1 (by decide)) b.1 (by decide)) (fun _ hk => hk.1.2) (.int .i64 x)) (fun _ hk => hk.1.2) (.int .i64 y)) (fun _ hk => hk.1.2) (.slice A z.length B)) (fun _ hk => hk.2)) (fun _ hk => hk.1.1.2), hs_ E.1⟩
 replace H := bi_ H; obtain ⟨⟨W, X, Y, la, ma⟩, Pb, H⟩ := H; (try dsimp only at H)
 simp only [Option.some.injEq, Prod.mk.injEq] at H
 obtain ⟨rfl, rfl, rfl, rfl, rfl, rfl⟩ := H
 refine ⟨?_⟩
 try go_wp2
 obtain ⟨j, a, b, o⟩ := y4_ j a b o
 replace m := M_ (IsS102.drew m.1)
 replace E := db_ E
 refine start_ (n := 5) (S := fun w' => c_ w' D 0 (.int .i64 x) ∧ c_ w' D 1 (.int .i64 y) ∧ c_ w' D 2 (.slice A z.length B)) (ds := []) (b_ 0 5) (by kernel_rfl) rfl rfl (e3_ o.1) (fun g => ?_)
 generalize ra.drew = yc at j a b o m E g ⊢
 refine pure_ (i := 1) (N := some 16) (v := ?_) (a' := ?_) #[f_,t_,f_,f_,f_] rfl rfl (by kernel_rfl) (fun _ _ _ h => h) (Or.inl ⟨by rfl, ?_⟩) ?_ ?_
 rotate_left
 ·
  intro w'
  go_simp
  with_reducible rfl
 rotate_left
 ·
  simp only [fr_]
  rfl
 refine take_ (i := 0) (N := some 15) (v := ?_) (a' := ?_) (b_ 2 3) rfl rfl (by kernel_rfl) (fun _ _ _ h => h) (Or.inl ⟨by rfl, ?_⟩) g ?_ ?_
 rotate_left
 ·
  rintro w' ⟨s0, s1, s2⟩
  go_simp
  with_reducible rfl
 rotate_left
 ·
  simp only [fr_]
  rfl
 refine one_ (i := 2) (N := some 17) (b_ 3 2) rfl rfl (by kernel_rfl) (by decide) (fun K L => ?_)
 refine gs_ Tryz.func51 #[.pointer (some ⟨g984, 0, none⟩), .int .i64 0, .int .i64 1] ?_
 with_reducible refine (spec_l7Any.calls k g984 F U V 0 1 W X Y la ma w _ ?_ ?_ Pb.1).mono ?_
 exact IsS102.pk_ m.1
 exact hs_ E.1
 rintro e T ⟨Qb, rfl, G, hi, hb, hk⟩
 refine ⟨_, rfl, ?_⟩
 replace a := kb_ hk a
 replace b := kb_ hk b
 replace o := kb_ hk o
 have Q := M_ (Kd.S_lower (Kd.S_new' G (Kd.S_lt (sp_ j.1))) (below_size (hs_ E.1)))
 replace j := M_ (Kd.S_mono (Kd.S_told (Kd.S_oldK (IsS102.apartS (show IsS102 w _ g984 F U V from IsS102.pk_ m.1) (sp_ j.1) (by decide)) hk) (Kd.S_base G)) (fun _ h_ => h_.1))
 replace E := M_ (hb)
 replace m := M_ (hi)
 (try clear hb)
 (try clear hb2)
 (try clear hk hi G)
 obtain ⟨Sa, Ta, fa⟩ := Kd.S_slice Q.1
 (first | subst fa | (obtain ⟨rfl, rfl⟩ := si_ fa))
 refine ho_ L (e3_ o.1) (fun g => ?_)
 refine one_ (i := 3) (N := none) (b_ 4 1) rfl rfl (by kernel_rfl) (by decide) (fun K L => ?_)
 have lc : T.cell? ⟨l, 0, none⟩ = some (.int .i64 0) := bx_ a.1 0
 have Rb := blk_frozen a.1 0
 have Ua := d.1
 have Va := q.1
 have Wa := c.1
 have Xa := s.1
 have mc : T.cell? ⟨l, 1, none⟩ = some (.int .i64 0) := bx_ a.1 1
 have Sb := blk_frozen a.1 1
 have Ya := d.1
 have Za := q.1
 have ab := c.1
 have bb := s.1
 have nc : T.cell? ⟨l, 2, none⟩ = some (.slice none 0 0) := bx_ a.1 2
 have Tb := blk_frozen a.1 2
 have cb := d.1
 have db := q.1
 have eb := c.1
 have fb := s.1
 refine skip_ (w1 := ?_) (by rfl) rfl ?_ ?_
 rotate_left
 ·
  go_simp
  rfl
 refine L.out _ _ ⟨(cg_ (g.1)), (cg_ (g.2.1)), (cg_ (g.2.2))⟩ (fun g => ?_)
 clear L K
 refine one_ (i := 4) (N := none) (b_ 5 0) rfl rfl (by kernel_rfl) (by decide) (fun K L => ?_)
 have oc : T.cell? ⟨u, 0, none⟩ = some (.int .i64 0) := bx_ b.1 0
 have Ub := blk_frozen b.1 0
 have gb := c.1
 have ib := r.1
 have jb := d.1
 have kb := t.1
 have pc : T.cell? ⟨u, 1, none⟩ = some (.int .i64 0) := bx_ b.1 1
 have Vb := blk_frozen b.1 1
 have lb := c.1
 have mb := r.1
 have nb := d.1
 have ob := t.1
 have qc : T.cell? ⟨u, 2, none⟩ = some (.slice none 0 0) := bx_ b.1 2
 have Wb := blk_frozen b.1 2
 have pb := c.1
 have qb := r.1
 have rb := d.1
 have sb := t.1
 refine skip_ (w1 := ?_) (by rfl) rfl ?_ ?_
 rotate_left
 ·
  go_simp
  rfl
 refine L.out _ _ ⟨(cg_ (g.1)), (cg_ (g.2.1)), (cg_ (g.2.2))⟩ (fun g => ?_)
 clear L K
 refine done_ (by kernel_rfl) ?_
 try go_wp2
 refine bodyPost_ret (results_cc rfl _ _ l u 26 26 #[.int .i64 x, .int .i64 y, .slice A z.length B] #[.int .i64 W, .int .i64 X, .slice Sa Y.length Ta] (0, 0) (0, 0) _ _ rfl (bp_ a.1) Tryz.underlying26 rfl (by kernel_rfl) rfl (bp_ b.1) Tryz.underlying26 rfl (by kernel_rfl)) rfl ?_
 exact ⟨_, _, rr_, Kd.S_mono (sf_ u (Kd.S_far (p := ⟨l, 2, none⟩) (Kd.S_far (p := ⟨l, 1, none⟩) (Kd.S_far (p := ⟨l, 0, none⟩) (Kd.S_types (Kd.S_types j.1 a.1 (by decide)) b.1 (by decide)) (fun _ hk => hk.1.2) (.int .i64 x)) (fun _ hk => hk.1.2) (.int .i64 y)) (fun _ hk => hk.1.2) (.slice A z.length B)) (fun _ hk => hk.2)) (fun _ hk => hk.1.1.2), Kd.S_mono (sf_ u (Kd.S_far (p := ⟨l, 2, none⟩) (Kd.S_far (p := ⟨l, 1, none⟩) (Kd.S_far (p := ⟨l, 0, none⟩) (Kd.S_types (Kd.S_types Q.1 a.1 (by decide)) b.1 (by decide)) (fun _ hk => hk.1.2) (.int .i64 x)) (fun _ hk => hk.1.2) (.int .i64 y)) (fun _ hk => hk.1.2) (.slice A z.length B)) (fun _ hk => hk.2)) (fun _ hk => hk.1.1.2), hs_ E.1⟩
def impl_SameAlarm.f (k : Nat) (b : List (S99)) (c : Int) (d : Int) (e : ByteArray) (g : List (S99)) (h : Int) (i : Int) (j : ByteArray) : Option (Bool) := (impl_SameSet.f k b g).bind fun a => (if a = true then (if c = h then (if d = i then (some (e.toList == j.toList)) else (some false)) else (some false)) else (some false))
theorem impl_SameAlarm.calls (k : Nat) (m : Option Addr) (n : Nat) (a : List (S99)) (c : Int) (d : Int) (s : ByteArray) (o : Option Addr) (p : Nat) (b : List (S99)) (g : Int) (i : Int) (t : ByteArray) (r : Bool) (w : World) (u : Kd.C k99 w m a.length a) (v : a.length ≤ n) (x : Kd.C k99 w o b.length b) (y : b.length ≤ p) (h : impl_SameAlarm.f k a c d s b g i t = some r) :
  Calls Tryz.prog 19 #[.agg #[.slice m a.length n, .int .i64 c, .int .i64 d, .string s], .agg #[.slice o b.length p, .int .i64 g, .int .i64 i, .string t]] w fun e w' => e = .returned (.bool r) ∧ Below w.heap.size w w' := by
 have hu29 := Tryz.underlying29
 have B := M_ u
 have D := M_ v
 clear u v
 have E := M_ x
 have F := M_ y
 clear x y
 have q := M_ (Below.refl w.heap.size w)
 unfold impl_SameAlarm.f at h
 have H := h; clear h
 replace H := bi_ H; obtain ⟨G, A3, H⟩ := H
 have AHz_ := M_ H
 clear H
 go_enter Tryz.func19, Tryz.ntmps19
 go_wp2_with (first | ((with_reducible refine gd_ 2 rfl ?_); refine bV_ 2 #[.slice m a.length n, .int .i64 c, .int .i64 d, .string s] 29 ?_; intro O hg w7 j hb; have P := gq_ hg q; replace q := st_ q hb; clear hb hg) | ((with_reducible refine gd_ 3 rfl ?_); refine bV_ 3 #[.slice o b.length p, .int .i64 g, .int .i64 i, .string t] 29 ?_; intro Q hg w8 z hb; have R := gq_ hg q; replace q := st_ q hb; obtain ⟨l, A, j⟩ := nb_ j hg hb; clear hb hg; have ia := n2_ l; obtain ⟨S, T, U, V, W, X, Y, Z⟩ := bc4_ j.1; obtain ⟨aa, ba, ca, da, ea, fa, ga, ha⟩ := bc4_ z.1) | (((with_reducible refine gate_callee (f := 72) rfl ?_); refine gl_ (some 9) Tryz.func72 #[.slice m a.length n, .slice o b.length p] ?_; (with_reducible refine (impl_SameSet.calls k _ _ a _ _ b G _ ?_ ?_ ?_ ?_ A3.1).mono ?_); exact cp_ ((Kd.C_below B.1 q.1)); exact D.1; exact cp_ ((Kd.C_below E.1 q.1)); exact F.1; rintro e w' ⟨rfl, ⟨nd, rfl⟩⟩; refine ⟨_, rfl, ?_⟩); refine Aside0.out ?_))
 have H := AHz_.1
 clear AHz_
 replace H := ib_ H; rcases H with ⟨rfl, H⟩ | ⟨rfl, H⟩
 ·
  replace H := ie_ H; rcases H with ⟨I, H⟩ | ⟨I, H⟩
  ·
   have K : (c == g) = true := beq_iff_eq.mpr I
   have L : (c != g) = false := bne_eq_false_iff_eq.mpr I
   clear I
   replace H := ie_ H; rcases H with ⟨J, H⟩ | ⟨J, H⟩
   ·
    have M : (d == i) = true := beq_iff_eq.mpr J
    have N : (d != i) = false := bne_eq_false_iff_eq.mpr J
    clear J
    obtain rfl := Option.some.inj H
    refine ⟨?_⟩
    go_wp2
    go_ret
    exact an_ (hs_ q.1)
   have M : (d == i) = false := beq_eq_false_iff_ne.mpr J
   have N : (d != i) = true := bne_iff_ne.mpr J
   obtain rfl := Option.some.inj H
   refine ⟨?_⟩
   go_wp2
   go_ret
   exact an_ (hs_ q.1)
  have K : (c == g) = false := beq_eq_false_iff_ne.mpr I
  have L : (c != g) = true := bne_iff_ne.mpr I
  obtain rfl := Option.some.inj H
  refine ⟨?_⟩
  go_wp2
  go_ret
  exact an_ (hs_ q.1)
 obtain rfl := Option.some.inj H
 refine ⟨?_⟩
 go_wp2
 go_ret
 exact an_ (hs_ q.1)
def impl_sameAlarms.l0 : Nat → List (S29) → List (S29) → Int → Int → Option (Bool)
 | 0, _, _, _, _ => none
 | k + 1, c, d, e, a => if a < e then (if 0 ≤ a then (if a < (c.length : Int) then (if a < (d.length : Int) then ((impl_SameAlarm.f k ((rd_T29 c a).f0) ((rd_T29 c a).f1) ((rd_T29 c a).f2) ((rd_T29 c a).f3) ((rd_T29 d a).f0) ((rd_T29 d a).f1) ((rd_T29 d a).f2) ((rd_T29 d a).f3)).bind fun b => (if b = true then (impl_sameAlarms.l0 k c d e (wrap64 (a + 1))) else (some false))) else (none)) else (none)) else (none)) else (some true)
def impl_sameAlarms.f (k : Nat) (l0 : List (S29)) (a : List (S29)) : Option (Bool) := if (l0.length : Int) = (a.length : Int) then (impl_sameAlarms.l0 k l0 a (l0.length : Int) 0) else (some false)
def impl_sameAlarms.T6 : Bool × List (List Nat × List Nat) := (true, [([], []), ([], []), ([0, 1], [0, 1]), ([2], [2]), ([], []), ([], []), ([4, 5], [4, 5]), ([6], [6]), ([3, 7], [3, 7]), ([8], [8])])
def impl_sameAlarms.B6 : List Nat := [0, 0, 3, 7, 0, 0, 48, 112, 255, 511]
theorem impl_sameAlarms.tab6 : rtab .any (opsOf Tryz.f105 6) = impl_sameAlarms.T6 := by kernel_rfl
theorem impl_sameAlarms.bits6 : waitsOk impl_sameAlarms.T6.2 impl_sameAlarms.B6 = true := by kernel_rfl
theorem impl_sameAlarms.calls (k : Nat) (A0 : Option Addr) (c0 : Nat) (l0 : List (S29)) (A1 : Option Addr) (c1 : Nat) (M : List (S29)) (r : Bool) (w : World) (ca : Kd.C k29 w A0 l0.length l0) (da : l0.length ≤ c0) (ea : Kd.C k29 w A1 M.length M) (fa : M.length ≤ c1) (h : impl_sameAlarms.f k l0 M = some r) :
  Calls Tryz.prog 105 #[.slice A0 l0.length c0, .slice A1 M.length c1] w fun e w' => e = .returned (.bool r) ∧ Below w.heap.size w w' := by
 have hu29 := Tryz.underlying29
 have ga := M_ ca
 have Ba := M_ da
 clear ca da
 have ha := M_ ea
 have Ca := M_ fa
 clear ea fa
 have y := M_ (Below.refl w.heap.size w)
 unfold impl_sameAlarms.f at h
 have H := h; clear h
 replace H := ie_ H; rcases H with ⟨c3, H⟩ | ⟨c3, H⟩
 ·
  have ia : ((l0.length : Int) == (M.length : Int)) = true := beq_iff_eq.mpr c3
  have ja : ((l0.length : Int) != (M.length : Int)) = false := bne_eq_false_iff_eq.mpr c3
  have ka : (l0.length == M.length) = true := by first | simpa using c3 | (simp at c3 ⊢; omega)
  clear c3
  have H' := M_ H
  clear H
  go_enter Tryz.func105, Tryz.ntmps105
  go_wp2
  go_loopg [13] k (fun kq oa w' => ∃ (a : Int), oa = .int .i64 a ∧ Aside0 (impl_sameAlarms.l0 kq l0 M (l0.length : Int) a = some r) ∧ Aside0 (kq ≤ k) ∧ Aside0 (Below w.heap.size w w'))
  case atStart => exact ⟨(0), rs_, H', ⟨Nat.le_refl _⟩, ⟨hs_ y.1⟩⟩
  case round =>
   clear H'
   obtain ⟨a, rfl, HA, la, y⟩ := hrel
   cases gk with
   | zero => exact absurd HA.1 (by simp [impl_sameAlarms.l0])
   | succ k1 =>
    have H := HA.1
    clear HA
    simp only [impl_sameAlarms.l0] at H
    replace H := ie_ H; rcases H with ⟨c4, H⟩ | ⟨c4, H⟩
    ·
     have na := decide_eq_true c4
     clear c4
     replace H := i2_ H; obtain ⟨xa, ya, H⟩ := H
     replace H := id_ H; obtain ⟨za, H⟩ := H
     replace H := bi_ H; obtain ⟨ra, A8, H⟩ := H
     replace H := ib_ H; rcases H with ⟨rfl, H⟩ | ⟨rfl, H⟩
     ·
      have H' := M_ H
      clear H
      try go_wp2
      replace y := db_ y
      obtain ⟨R, T⟩ : 0 ≤ (a : Int) ∧ a < (l0.length : Int) := pq_
      obtain ⟨z, N, O, Y, b, d, g, i, B, D⟩ := at_T29 ga.1 a R T
      have o := i
      have p := g
      have q := d
      have s := b
      cases Y
      replace b := c4_ y b d g i; clear d g i; obtain ⟨b, d, g, i⟩ := b
      have E := M_ D
      have W := M_ B
      clear D B
      replace R := eq_true R; replace T := eq_true T
      obtain ⟨U, V⟩ : 0 ≤ (a : Int) ∧ a < (M.length : Int) := pq_
      obtain ⟨A, P, Q, Z, c, j, l, m, F, G⟩ := at_T29 ha.1 a U V
      have t := m
      have u := l
      have v := j
      have x := c
      cases Z
      replace c := c4_ y c j l m; clear j l m; obtain ⟨c, j, l, m⟩ := c
      have I := M_ G
      have X := M_ F
      clear G F
      replace U := eq_true U; replace V := eq_true V
      refine start_ (n := 10) (S := fun w' => w'.cell? (z.add ((a).toNat * 4)) = some (.slice N ((rd_T29 l0 a).f0).length O) ∧ d_ w' (z.add ((a).toNat * 4)) 1 (.int .i64 ((rd_T29 l0 a).f1)) ∧ d_ w' (z.add ((a).toNat * 4)) 2 (.int .i64 ((rd_T29 l0 a).f2)) ∧ d_ w' (z.add ((a).toNat * 4)) 3 (.string ((rd_T29 l0 a).f3)) ∧ w'.cell? (A.add ((a).toNat * 4)) = some (.slice P ((rd_T29 M a).f0).length Q) ∧ d_ w' (A.add ((a).toNat * 4)) 1 (.int .i64 ((rd_T29 M a).f1)) ∧ d_ w' (A.add ((a).toNat * 4)) 2 (.int .i64 ((rd_T29 M a).f2)) ∧ d_ w' (A.add ((a).toNat * 4)) 3 (.string ((rd_T29 M a).f3))) (ds := []) (b_ 0 10) (by kernel_rfl) rfl rfl ⟨((y.1.cell (World.block_lt_of_cell? w _ s)).trans s), ((y.1.cell (World.block_lt_of_cell? w _ q)).trans q), ((y.1.cell (World.block_lt_of_cell? w _ p)).trans p), ((y.1.cell (World.block_lt_of_cell? w _ o)).trans o), ((y.1.cell (World.block_lt_of_cell? w _ x)).trans x), ((y.1.cell (World.block_lt_of_cell? w _ v)).trans v), ((y.1.cell (World.block_lt_of_cell? w _ u)).trans u), ((y.1.cell (World.block_lt_of_cell? w _ t)).trans t)⟩ (fun J => ?_); refine with_tabW impl_sameAlarms.tab6 impl_sameAlarms.bits6 (fun L aa => ?_)
      generalize wr.drew = Da at y E I b d g i c j l m J ⊢
      iterate 3 refine p_ L ?_
      refine qw_ 4 (m_ 10 23) L ?_
      refine qw_ 5 (m_ 10 55) L ?_
      refine qw_ 6 (m_ 10 119) L ?_
      refine qt_ 3 (b_ 7 3) L aa J ?_
      refine t0_ L aa J ?_
      refine o1_ 8 (b_ 9 1) L (fun K hK => ?_)
      refine gs_ Tryz.func19 #[.agg #[.slice N ((rd_T29 l0 a).f0).length O, .int .i64 ((rd_T29 l0 a).f1), .int .i64 ((rd_T29 l0 a).f2), .string ((rd_T29 l0 a).f3)], .agg #[.slice P ((rd_T29 M a).f0).length Q, .int .i64 ((rd_T29 M a).f1), .int .i64 ((rd_T29 M a).f2), .string ((rd_T29 M a).f3)]] ?_
      with_reducible refine (impl_SameAlarm.calls k1 _ _ ((rd_T29 l0 a).f0) ((rd_T29 l0 a).f1) ((rd_T29 l0 a).f2) ((rd_T29 l0 a).f3) _ _ ((rd_T29 M a).f0) ((rd_T29 M a).f1) ((rd_T29 M a).f2) ((rd_T29 M a).f3) true _ ?_ ?_ ?_ ?_ A8.1).mono ?_
      exact cp_ ((Kd.C_below E.1 y.1))
      exact W.1
      exact cp_ ((Kd.C_below I.1 y.1))
      exact X.1
      rintro e Ea ⟨rfl, hb⟩
      refine ⟨_, rfl, ?_⟩
      replace y := st_ y hb
      (try clear hb)
      refine ho_ hK ⟨((y.1.cell (World.block_lt_of_cell? w _ s)).trans s), ((y.1.cell (World.block_lt_of_cell? w _ q)).trans q), ((y.1.cell (World.block_lt_of_cell? w _ p)).trans p), ((y.1.cell (World.block_lt_of_cell? w _ o)).trans o), ((y.1.cell (World.block_lt_of_cell? w _ x)).trans x), ((y.1.cell (World.block_lt_of_cell? w _ v)).trans v), ((y.1.cell (World.block_lt_of_cell? w _ u)).trans u), ((y.1.cell (World.block_lt_of_cell? w _ t)).trans t)⟩ (fun J => ?_)
      refine p_ L ?_
      refine done_ (done_of L.1 (by kernel_rfl)) ?_
      try go_wp2
      go_roundg k1
      case measure => have := la.1; omega
      case rel => exact ⟨(wrap64 (a + 1)), rs_, H', ⟨by have := la.1; omega⟩, ⟨hs_ y.1⟩⟩
     obtain rfl := Option.some.inj H
     try go_wp2
     replace y := db_ y
     obtain ⟨R, T⟩ : 0 ≤ (a : Int) ∧ a < (l0.length : Int) := pq_
     obtain ⟨z, N, O, Y, b, d, g, i, B, D⟩ := at_T29 ga.1 a R T
     have o := i
     have p := g
     have q := d
     have s := b
     cases Y
     replace b := c4_ y b d g i; clear d g i; obtain ⟨b, d, g, i⟩ := b
     have E := M_ D
     have W := M_ B
     clear D B
     replace R := eq_true R; replace T := eq_true T
     obtain ⟨U, V⟩ : 0 ≤ (a : Int) ∧ a < (M.length : Int) := pq_
     obtain ⟨A, P, Q, Z, c, j, l, m, F, G⟩ := at_T29 ha.1 a U V
     have t := m
     have u := l
     have v := j
     have x := c
     cases Z
     replace c := c4_ y c j l m; clear j l m; obtain ⟨c, j, l, m⟩ := c
     have I := M_ G
     have X := M_ F
     clear G F
     replace U := eq_true U; replace V := eq_true V
     refine start_ (n := 10) (S := fun w' => w'.cell? (z.add ((a).toNat * 4)) = some (.slice N ((rd_T29 l0 a).f0).length O) ∧ d_ w' (z.add ((a).toNat * 4)) 1 (.int .i64 ((rd_T29 l0 a).f1)) ∧ d_ w' (z.add ((a).toNat * 4)) 2 (.int .i64 ((rd_T29 l0 a).f2)) ∧ d_ w' (z.add ((a).toNat * 4)) 3 (.string ((rd_T29 l0 a).f3)) ∧ w'.cell? (A.add ((a).toNat * 4)) = some (.slice P ((rd_T29 M a).f0).length Q) ∧ d_ w' (A.add ((a).toNat * 4)) 1 (.int .i64 ((rd_T29 M a).f1)) ∧ d_ w' (A.add ((a).toNat * 4)) 2 (.int .i64 ((rd_T29 M a).f2)) ∧ d_ w' (A.add ((a).toNat * 4)) 3 (.string ((rd_T29 M a).f3))) (ds := []) (b_ 0 10) (by kernel_rfl) rfl rfl ⟨((y.1.cell (World.block_lt_of_cell? w _ s)).trans s), ((y.1.cell (World.block_lt_of_cell? w _ q)).trans q), ((y.1.cell (World.block_lt_of_cell? w _ p)).trans p), ((y.1.cell (World.block_lt_of_cell? w _ o)).trans o), ((y.1.cell (World.block_lt_of_cell? w _ x)).trans x), ((y.1.cell (World.block_lt_of_cell? w _ v)).trans v), ((y.1.cell (World.block_lt_of_cell? w _ u)).trans u), ((y.1.cell (World.block_lt_of_cell? w _ t)).trans t)⟩ (fun J => ?_); refine with_tabW impl_sameAlarms.tab6 impl_sameAlarms.bits6 (fun L aa => ?_)
     generalize wr.drew = Fa at y E I b d g i c j l m J ⊢
     iterate 3 refine p_ L ?_
     refine qw_ 4 (m_ 10 23) L ?_
     refine qw_ 5 (m_ 10 55) L ?_
     refine qw_ 6 (m_ 10 119) L ?_
     refine qt_ 3 (b_ 7 3) L aa J ?_
     refine t0_ L aa J ?_
     refine o1_ 8 (b_ 9 1) L (fun K hK => ?_)
     refine gs_ Tryz.func19 #[.agg #[.slice N ((rd_T29 l0 a).f0).length O, .int .i64 ((rd_T29 l0 a).f1), .int .i64 ((rd_T29 l0 a).f2), .string ((rd_T29 l0 a).f3)], .agg #[.slice P ((rd_T29 M a).f0).length Q, .int .i64 ((rd_T29 M a).f1), .int .i64 ((rd_T29 M a).f2), .string ((rd_T29 M a).f3)]] ?_
     with_reducible refine (impl_SameAlarm.calls k1 _ _ ((rd_T29 l0 a).f0) ((rd_T29 l0 a).f1) ((rd_T29 l0 a).f2) ((rd_T29 l0 a).f3) _ _ ((rd_T29 M a).f0) ((rd_T29 M a).f1) ((rd_T29 M a).f2) ((rd_T29 M a).f3) false _ ?_ ?_ ?_ ?_ A8.1).mono ?_
     exact cp_ ((Kd.C_below E.1 y.1))
     exact W.1
     exact cp_ ((Kd.C_below I.1 y.1))
     exact X.1
     rintro e Ga ⟨rfl, hb⟩
     refine ⟨_, rfl, ?_⟩
     replace y := st_ y hb
     (try clear hb)
     refine ho_ hK ⟨((y.1.cell (World.block_lt_of_cell? w _ s)).trans s), ((y.1.cell (World.block_lt_of_cell? w _ q)).trans q), ((y.1.cell (World.block_lt_of_cell? w _ p)).trans p), ((y.1.cell (World.block_lt_of_cell? w _ o)).trans o), ((y.1.cell (World.block_lt_of_cell? w _ x)).trans x), ((y.1.cell (World.block_lt_of_cell? w _ v)).trans v), ((y.1.cell (World.block_lt_of_cell? w _ u)).trans u), ((y.1.cell (World.block_lt_of_cell? w _ t)).trans t)⟩ (fun J => ?_)
     refine p_ L ?_
     refine done_ (done_of L.1 (by kernel_rfl)) ?_
     try go_wp2
     go_ret
     exact an_ (hs_ y.1)
    have na : decide (a < (l0.length : Int)) = false := decide_eq_false c4
    clear c4
    obtain rfl := Option.some.inj H
    go_wp2
    go_ret
    exact an_ (hs_ y.1)
 have ia : ((l0.length : Int) == (M.length : Int)) = false := beq_eq_false_iff_ne.mpr c3
 have ja : ((l0.length : Int) != (M.length : Int)) = true := bne_iff_ne.mpr c3
 have ka : (l0.length == M.length) = false := by first | simpa using c3 | (simp at c3 ⊢; omega)
 obtain rfl := Option.some.inj H
 go_enter Tryz.func105, Tryz.ntmps105
 go_wp2
 go_ret
 exact an_ (hs_ y.1)
def impl_SameChain.f (k : Nat) (b : Int) (c : List (S29)) (d : Int) (e : List (S29)) : Option (Bool) := if b = d then ((impl_sameAlarms.f k c e).bind fun a => (some a)) else (some false)
theorem impl_SameChain.calls (k : Nat) (b : Int) (m : Option Addr) (n : Nat) (c : List (S29)) (d : Int) (o : Option Addr) (p : Nat) (g : List (S29)) (r : Bool) (w : World) (q : Kd.C k29 w m c.length c) (s : c.length ≤ n) (t : Kd.C k29 w o g.length g) (u : g.length ≤ p) (h : impl_SameChain.f k b c d g = some r) :
  Calls Tryz.prog 71 #[.agg #[.int .i64 b, .slice m c.length n], .agg #[.int .i64 d, .slice o g.length p]] w fun e w' => e = .returned (.bool r) ∧ Below w.heap.size w w' := by
 have hu80 := Tryz.underlying80
 have x := M_ q
 have y := M_ s
 clear q s
 have z := M_ t
 have A := M_ u
 clear t u
 have l := M_ (Below.refl w.heap.size w)
 unfold impl_SameChain.f at h
 have H := h; clear h
 have AHz_ := M_ H
 clear H
 go_enter Tryz.func71, Tryz.ntmps71
 go_wp2_with (first | ((with_reducible refine gd_ 2 rfl ?_); refine bV_ 2 #[.int .i64 b, .slice m c.length n] 80 ?_; intro G hg W a hb; have I := gq_ hg l; replace l := st_ l hb; clear hb hg) | (((with_reducible refine gd_ 3 rfl ?_); refine bV_ 3 #[.int .i64 d, .slice o g.length p] 80 ?_; intro J hg X i hb; have K := gq_ hg l; replace l := st_ l hb; obtain ⟨j, v, a⟩ := nb_ a hg hb; clear hb hg; have L := n2_ j; obtain ⟨M, N, O, P⟩ := bc2_ a.1; obtain ⟨Q, R, S, T⟩ := bc2_ i.1); refine Aside0.out ?_))
 have H := AHz_.1
 clear AHz_
 replace H := ie_ H; rcases H with ⟨D, H⟩ | ⟨D, H⟩
 ·
  have E : (b == d) = true := beq_iff_eq.mpr D
  have F : (b != d) = false := bne_eq_false_iff_eq.mpr D
  clear D
  replace H := bi_ H; obtain ⟨B, U, H⟩ := H
  obtain rfl := Option.some.inj H
  refine ⟨?_⟩
  go_wp2_with (first | (go_at_call 105; (with_reducible refine (impl_sameAlarms.calls k _ _ c _ _ g B _ ?_ ?_ ?_ ?_ U.1).mono ?_); exact cp_ ((Kd.C_below x.1 l.1)); exact y.1; exact cp_ ((Kd.C_below z.1 l.1)); exact A.1; rintro e V ⟨rfl, hb⟩; obtain ⟨a, i, l⟩ := u3_ hb a i l; (try clear hb)))
  go_ret
  exact an_ (hs_ l.1)
 have E : (b == d) = false := beq_eq_false_iff_ne.mpr D
 have F : (b != d) = true := bne_iff_ne.mpr D
 obtain rfl := Option.some.inj H
 refine ⟨?_⟩
 go_wp2
 go_ret
 exact an_ (hs_ l.1)
end Go.Proofs.YtanfohlpkppeiaaGreat.Print
end
