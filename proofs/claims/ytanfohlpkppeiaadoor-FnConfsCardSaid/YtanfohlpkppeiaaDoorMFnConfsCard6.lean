import Derived.Test.YtanfohlpkppeiaaDoorMFnConfsCard4
import Derived.Test.YtanfohlpkppeiaaDoorMFnConfsCard5
import Derived.Test.YtanfohlpkppeiaaDoorMFnConfsCard1
import Derived.Test.YtanfohlpkppeiaaDoorMFnConfsCard2
import Derived.Test.YtanfohlpkppeiaaDoorMFnConfsCard3
section
namespace Go.Proofs.YtanfohlpkppeiaaDoor.Print
open Go.RowKit Go.Proofs.YtanfohlpkppeiaaDoorV.PrintWords Go.Proofs.YtanfohlpkppeiaaDoorV.PrintLast Go.Proofs.YtanfohlpkppeiaaDoorV.PrintMore
set_option linter.unusedVariables false
set_option linter.unusedSimpArgs false
theorem ct_ext {a b : ByteArray} (h : a.data.toList = b.data.toList) : a = b := by
  cases a; cases b; simpa using h
def dig (n : Int) : ByteArray := ⟨#[UInt8.ofNat (48 + n.toNat)]⟩
theorem dig_size (n : Int) : (dig n).size = 1 := rfl
theorem implNum (n : Int) (h0 : 1 ≤ n) (h1 : n ≤ 9) : impl_NumText.f n = some (dig n) := by
  have : n = 1 ∨ n = 2 ∨ n = 3 ∨ n = 4 ∨ n = 5 ∨ n = 6 ∨ n = 7 ∨ n = 8 ∨ n = 9 := by omega
  rcases this with rfl | rfl | rfl | rfl | rfl | rfl | rfl | rfl | rfl <;> decide +kernel
theorem specNum (n : Int) (h0 : 1 ≤ n) (h1 : n ≤ 9) (k : Nat) : spec_NumText.f (k + 2) n = some (dig n) := by
  have : n = 1 ∨ n = 2 ∨ n = 3 ∨ n = 4 ∨ n = 5 ∨ n = 6 ∨ n = 7 ∨ n = 8 ∨ n = 9 := by omega
  rcases this with rfl | rfl | rfl | rfl | rfl | rfl | rfl | rfl | rfl <;> (simp [spec_NumText.f, spec_NumText.l0, strOfNums, dig, wrap64]; exact ⟨by decide, ct_ext (by simp [ByteArray.data_append])⟩)
def ctext (s : ByteArray) (a b c d e : Int) : ByteArray := ((((((((((((⟨#[112, 97, 114, 116, 115, 32]⟩ : ByteArray) ++ dig a) ++ (⟨#[32, 99, 97, 112, 32]⟩ : ByteArray)) ++ dig b) ++ (⟨#[32, 115, 117, 98, 115, 32]⟩ : ByteArray)) ++ dig c) ++ (⟨#[32, 119, 97, 105, 116, 32]⟩ : ByteArray)) ++ dig d) ++ (⟨#[32, 101, 118, 101, 114, 121, 32]⟩ : ByteArray)) ++ dig e) ++ (⟨#[32, 98, 121, 32]⟩ : ByteArray)) ++ s)
theorem lz1 : (⟨#[112, 97, 114, 116, 115, 32]⟩ : ByteArray).size = 6 := rfl
theorem lz2 : (⟨#[32, 99, 97, 112, 32]⟩ : ByteArray).size = 5 := rfl
theorem lz3 : (⟨#[32, 115, 117, 98, 115, 32]⟩ : ByteArray).size = 6 := rfl
theorem lz4 : (⟨#[32, 119, 97, 105, 116, 32]⟩ : ByteArray).size = 6 := rfl
theorem lz5 : (⟨#[32, 101, 118, 101, 114, 121, 32]⟩ : ByteArray).size = 7 := rfl
theorem lz6 : (⟨#[32, 98, 121, 32]⟩ : ByteArray).size = 4 := rfl
theorem lz7 : (⟨#[44]⟩ : ByteArray).size = 1 := rfl
theorem w01 : wrap64 (0 + 1) = 1 := by rw [wrap_id (by omega) (by omega)]; rfl
theorem w12 : wrap64 (1 + 1) = 2 := by rw [wrap_id (by omega) (by omega)]; rfl
def In9 (n : Int) : Prop := 1 ≤ n ∧ n ≤ 9
theorem implTail (s : ByteArray) (a b c d e : Int) (l : List ByteArray) (hs : s.size ≤ 1000) (ha : In9 a) (hb : In9 b) (hc : In9 c) (hd : In9 d) (he : In9 e) (k : Nat) :
    impl_ConfText.j0 (k + 1) s a b c d e l = some (ctext s a b c d e) := by
  simp only [impl_ConfText.j0, implNum _ ha.1 ha.2, implNum _ hb.1 hb.2, implNum _ hc.1 hc.2, implNum _ hd.1 hd.2, implNum _ he.1 he.2, Option.bind_some, ByteArray.size_append, dig_size, lz1, lz2, lz3, lz4, lz5, lz6]
  have hz : 6 + 1 + 5 + 1 + 6 + 1 + 6 + 1 + 7 + 1 + 4 + s.size ≤ 9223372036854775807 := by omega
  simp [hz]
  rfl
theorem specTail (s : ByteArray) (i : Int) (a b c d e : Int) (l : List ByteArray) (hi : ¬ i < (l.length : Int)) (hs : s.size ≤ 1000) (ha : In9 a) (hb : In9 b) (hc : In9 c) (hd : In9 d) (he : In9 e) (k : Nat) :
    spec_ConfText.l0 (k + 3) s i a b c d e l = some (ctext s a b c d e) := by
  simp only [spec_ConfText.l0, if_neg hi, specNum _ ha.1 ha.2, specNum _ hb.1 hb.2, specNum _ hc.1 hc.2, specNum _ hd.1 hd.2, specNum _ he.1 he.2, Option.bind_some, ByteArray.size_append, dig_size, lz1, lz2, lz3, lz4, lz5, lz6]
  have hz : 6 + 1 + 5 + 1 + 6 + 1 + 6 + 1 + 7 + 1 + 4 + s.size ≤ 9223372036854775807 := by omega
  simp [hz]
  rfl
theorem nameOk_size {s : ByteArray} (h : nameOk s = true) : 1 ≤ s.size ∧ s.size ≤ 8 := by
  unfold nameOk at h
  simp only [Bool.and_eq_true, decide_eq_true_eq] at h
  omega
theorem join1 (x : ByteArray) (hx : x.size ≤ 8) : strings_Join.f [x] (⟨#[44]⟩ : ByteArray) = some x := by
  have hl : (Lib.join ([x].map (·.data.toList)) (⟨#[44]⟩ : ByteArray).data.toList) = x.data.toList := by simp [Lib.join_one]
  unfold strings_Join.f
  rw [hl, if_pos ⟨by simp, by have : x.data.toList.length = x.size := rfl; omega⟩]
theorem join2 (x y : ByteArray) (hx : x.size ≤ 8) (hy : y.size ≤ 8) : strings_Join.f [x, y] (⟨#[44]⟩ : ByteArray) = some ((x ++ (⟨#[44]⟩ : ByteArray)) ++ y) := by
  have hl : (Lib.join ([x, y].map (·.data.toList)) (⟨#[44]⟩ : ByteArray).data.toList) = ((x ++ (⟨#[44]⟩ : ByteArray)) ++ y).data.toList := by simp [Lib.join, List.intercalate, ByteArray.data_append]
  unfold strings_Join.f
  rw [hl, if_pos ⟨by simp, by
    have : ((x ++ (⟨#[44]⟩ : ByteArray)) ++ y).data.toList.length = ((x ++ (⟨#[44]⟩ : ByteArray)) ++ y).size := rfl
    rw [this]; simp only [ByteArray.size_append, lz7]; omega⟩]
theorem ne_nil {x : ByteArray} (h : 1 ≤ x.size) : ¬ x.toList = ([] : List UInt8) := by
  rw [ByteArray.toList_eq]; intro e
  have : x.data.toList.length = x.size := rfl
  rw [e] at this; simp at this; omega
theorem ctext_size (s : ByteArray) (a b c d e : Int) : 6 ≤ (ctext s a b c d e).size := by
  unfold ctext; simp only [ByteArray.size_append, lz1]; omega
theorem confText_ev (c : S26) (h : WiConf c) : ∃ v, Ev (fun k => impl_ConfText.f k c.f0 c.f1 c.f2 c.f3 c.f4 c.f5) v ∧ Ev (fun k => spec_ConfText.f k c.f0 c.f1 c.f2 c.f3 c.f4 c.f5) v ∧ (v.toList != ([] : List UInt8)) = confOk c := by
  obtain ⟨K1, g1⟩ := implConfOk_ev c h
  obtain ⟨K2, g2⟩ := specConfOk_ev c h
  by_cases ok : confOk c = true
  · have ok2 := ok
    unfold confOk byOk at ok2
    simp only [Bool.and_eq_true, decide_eq_true_eq, List.all_eq_true] at ok2
    obtain ⟨⟨a0, a1⟩, ⟨b0, b1⟩, ⟨c0, c1⟩, ⟨d0, d1⟩, ⟨e0, e1⟩, hn, hl, _⟩ := ok2
    have ha : In9 c.f0 := ⟨a0, by omega⟩
    have hb : In9 c.f1 := ⟨b0, by omega⟩
    have hc : In9 c.f2 := ⟨c0, by omega⟩
    have hd : In9 c.f3 := ⟨d0, d1⟩
    have he : In9 c.f4 := ⟨e0, e1⟩
    obtain ⟨f0, f1, f2, f3, f4, l⟩ := c
    have full : ∀ v : ByteArray, 6 ≤ v.size → (v.toList != ([] : List UInt8)) = confOk (⟨f0, f1, f2, f3, f4, l⟩ : S26) := fun v hv => by rw [ok]; simpa using ne_nil (x := v) (by omega)
    simp only at *
    match l, hn, hl with
    | [], _, _ =>
      refine ⟨ctext ⟨#[45]⟩ f0 f1 f2 f3 f4, ⟨K1 + 1, fun k hk => ?_⟩, ⟨K2 + 3, fun k hk => ?_⟩, full _ (ctext_size _ _ _ _ _ _)⟩
      · have e := g1 k (by omega)
        simp only [ok] at e
        obtain ⟨k, rfl⟩ : ∃ j, k = j + 1 := ⟨k - 1, by omega⟩
        have ej : strings_Join.f ([] : List ByteArray) (⟨#[44]⟩ : ByteArray) = some ⟨#[]⟩ := by decide +kernel
        have ei : (⟨#[]⟩ : ByteArray).toList = ([] : List UInt8) := by rw [ByteArray.toList_eq]
        simp only [impl_ConfText.f, e, Option.bind_some, if_true, ej, if_pos ei]
        exact implTail _ _ _ _ _ _ _ (by decide) ha hb hc hd he k
      · have e := g2 k (by omega)
        simp only [ok] at e
        obtain ⟨k, rfl⟩ : ∃ j, k = j + 3 := ⟨k - 3, by omega⟩
        simp only [spec_ConfText.f, e, Option.bind_some, if_true]
        exact specTail _ _ _ _ _ _ _ _ (by simp) (by decide) ha hb hc hd he k
    | [x], hn, _ =>
      have hx := nameOk_size (hn x (by simp))
      refine ⟨ctext x f0 f1 f2 f3 f4, ⟨K1 + 1, fun k hk => ?_⟩, ⟨K2 + 4, fun k hk => ?_⟩, full _ (ctext_size _ _ _ _ _ _)⟩
      · have e := g1 k (by omega)
        simp only [ok] at e
        obtain ⟨k, rfl⟩ : ∃ j, k = j + 1 := ⟨k - 1, by omega⟩
        simp only [impl_ConfText.f, e, Option.bind_some, if_true, join1 x hx.2, if_neg (ne_nil hx.1)]
        exact implTail _ _ _ _ _ _ _ (by omega) ha hb hc hd he k
      · have e := g2 k (by omega)
        simp only [ok] at e
        obtain ⟨k, rfl⟩ : ∃ j, k = j + 4 := ⟨k - 4, by omega⟩
        simp only [spec_ConfText.f, e, Option.bind_some, if_true]
        have st : spec_ConfText.l0 (k + 4) (⟨#[45]⟩ : ByteArray) 0 f0 f1 f2 f3 f4 [x] = spec_ConfText.l0 (k + 3) x 1 f0 f1 f2 f3 f4 [x] := by
          conv => lhs; unfold spec_ConfText.l0
          rw [if_pos (by simp), if_pos rfl, if_pos (by omega), w01]; rfl
        rw [st]
        exact specTail _ _ _ _ _ _ _ _ (by simp) (by omega) ha hb hc hd he k
    | [x, y], hn, _ =>
      have hx := nameOk_size (hn x (by simp))
      have hy := nameOk_size (hn y (by simp))
      have hz : ((x ++ (⟨#[44]⟩ : ByteArray)) ++ y).size = x.size + 1 + y.size := by simp only [ByteArray.size_append, lz7]
      refine ⟨ctext ((x ++ (⟨#[44]⟩ : ByteArray)) ++ y) f0 f1 f2 f3 f4, ⟨K1 + 1, fun k hk => ?_⟩, ⟨K2 + 5, fun k hk => ?_⟩, full _ (ctext_size _ _ _ _ _ _)⟩
      · have e := g1 k (by omega)
        simp only [ok] at e
        obtain ⟨k, rfl⟩ : ∃ j, k = j + 1 := ⟨k - 1, by omega⟩
        simp only [impl_ConfText.f, e, Option.bind_some, if_true, join2 x y hx.2 hy.2, if_neg (ne_nil (x := (x ++ (⟨#[44]⟩ : ByteArray)) ++ y) (by omega))]
        exact implTail _ _ _ _ _ _ _ (by omega) ha hb hc hd he k
      · have e := g2 k (by omega)
        simp only [ok] at e
        obtain ⟨k, rfl⟩ : ∃ j, k = j + 5 := ⟨k - 5, by omega⟩
        simp only [spec_ConfText.f, e, Option.bind_some, if_true]
        have st : spec_ConfText.l0 (k + 5) (⟨#[45]⟩ : ByteArray) 0 f0 f1 f2 f3 f4 [x, y] = spec_ConfText.l0 (k + 4) x 1 f0 f1 f2 f3 f4 [x, y] := by
          conv => lhs; unfold spec_ConfText.l0
          rw [if_pos (by simp), if_pos rfl, if_pos (by omega), w01]; rfl
        have st2 : spec_ConfText.l0 (k + 4) x 1 f0 f1 f2 f3 f4 [x, y] = spec_ConfText.l0 (k + 3) ((x ++ (⟨#[44]⟩ : ByteArray)) ++ y) 2 f0 f1 f2 f3 f4 [x, y] := by
          have ey : rdOf ByteArray.empty [x, y] 1 = y := rfl
          conv => lhs; unfold spec_ConfText.l0
          rw [if_pos (by simp), if_neg (by omega), if_pos (by omega), if_pos (by omega), ey, if_pos (by simp only [ByteArray.size_append, lz7]; omega), w12]
        rw [st, st2]
        exact specTail _ _ _ _ _ _ _ _ (by simp) (by omega) ha hb hc hd he k
    | x :: y :: z :: r, _, hl => exfalso; simp only [List.length_cons] at hl; omega
  · refine ⟨⟨#[]⟩, ⟨K1, fun k hk => ?_⟩, ⟨K2, fun k hk => ?_⟩, by simp only [Bool.not_eq_true] at ok; rw [ok, ByteArray.toList_eq]; rfl⟩
    · have e := g1 k hk
      simp only [Bool.not_eq_true] at ok
      simp only [ok] at e
      simp only [impl_ConfText.f, e, Option.bind_some, Bool.false_eq_true, if_false]
    · have e := g2 k hk
      simp only [Bool.not_eq_true] at ok
      simp only [ok] at e
      simp only [spec_ConfText.f, e, Option.bind_some, Bool.false_eq_true, if_false]
theorem rdnLabel (l : List S83) (i : Nat) : rd_T83 l (i : Int) = l.getD i z83 := by unfold rd_T83; simp
theorem rdnAlarm (l : List S37) (i : Nat) : rd_T37 l (i : Int) = l.getD i z37 := by unfold rd_T37; simp
/-- A label as two lists of bytes; an alarm as what it holds. -/
def lab (x : S83) : List UInt8 × List UInt8 := (x.f0.toList, x.f1.toList)
def sameSet (a b : List S83) : Bool := decide (a.map lab = b.map lab)
theorem map_ne_of_length {α β : Type} {f : α → β} {a b : List α} (h : ¬ a.length = b.length) : ¬ (a.map f = b.map f) := fun e => h (by simpa using congrArg List.length e)
theorem labNe (x y : S83) : ((!(x.f0.toList == y.f0.toList) || (!(x.f1.toList == y.f1.toList))) = true) ↔ ¬ lab x = lab y := by
  unfold lab
  simp only [Prod.mk.injEq, Bool.or_eq_true, Bool.not_eq_true', beq_eq_false_iff_ne]
  constructor
  · rintro (h | h) ⟨h1, h2⟩
    · exact h h1
    · exact h h2
  · intro h
    by_cases h1 : x.f0.toList = y.f0.toList
    · exact .inr fun h2 => h ⟨h1, h2⟩
    · exact .inl h1
theorem specSameSet_ev (a b : List S83) (h : a.length < 4611686018427387904) : Ev (fun k => spec_SameSet.f k a b) (sameSet a b) := by
  unfold spec_SameSet.f sameSet
  by_cases hl : a.length = b.length
  · simp only [if_pos (show (a.length : Int) = (b.length : Int) by omega)]
    rw [← scan_same0 lab z83 a b hl]
    refine scan_ev (F := fun k i => spec_SameSet.l0 k a b i) (n := a.length) (fun k => ?_) (fun i hi => ⟨0, fun k _ => ?_⟩) a.length 0 (by omega)
    · simp only [spec_SameSet.l0]; rw [if_neg (by omega)]
    · simp only [spec_SameSet.l0]
      rw [if_pos (by omega), if_pos (by omega), if_pos (by omega), rdnLabel, rdnLabel, wrap_up i (by omega)]
      by_cases hc : lab (a.getD i z83) = lab (b.getD i z83)
      · rw [if_neg (fun e => (labNe _ _).1 e hc), if_pos hc]; rfl
      · rw [if_pos ((labNe _ _).2 hc), if_neg hc]; rfl
  · simp only [if_neg (show ¬ (a.length : Int) = (b.length : Int) by omega), decide_eq_false (map_ne_of_length hl)]
    exact Ev.now _
def labelsAt (l : List S37) (s : List S83) : Int := place (fun a => sameSet a.f0 s) l 0
def WiGroup (x : S33) : Prop := True ∧ (x.f1.length ≤ 4000000 ∧ ∀ y ∈ x.f1, WiLabel y) ∧ True ∧ True ∧ (x.f4.length ≤ 4000000 ∧ ∀ y ∈ x.f4, WiAlarm y)
/-- Labels in order, by names and by values. -/
def setLess : List S83 → List S83 → Bool
  | [], [] => false
  | [], _ :: _ => true
  | _ :: _, [] => false
  | x :: a, y :: b => if x.f0.toList = y.f0.toList then (if x.f1.toList = y.f1.toList then setLess a b else Op.bytesLess x.f1.toList y.f1.toList) else Op.bytesLess x.f0.toList y.f0.toList
theorem specSetLess_l0 (a b : List S83) (ha : a.length < 4611686018427387904) : ∀ (sa sb pa pb : List S83), pa ++ sa = a → pb ++ sb = b → pa.length = pb.length → Ev (fun k => spec_SetLess.l0 k a b (pa.length : Int)) (setLess sa sb)
  | [], sb, pa, pb, ea, eb, hp => by
    have hl : a.length = pa.length := by rw [← ea]; simp
    have hb : b.length = pb.length + sb.length := by rw [← eb]; simp
    refine Ev.step (f := fun k => spec_SetLess.j1 k a b (pa.length : Int) false) (fun k => ?_) (Ev.step (f := fun _ => some (setLess [] sb)) (fun k => ?_) (Ev.now _))
    · simp only [spec_SetLess.l0]; rw [if_neg (by omega)]
    · simp only [spec_SetLess.j1]; rw [if_neg (by simp)]
      cases sb with
      | nil => simp only [List.length_nil] at hb; rw [decide_eq_false (by omega)]; rfl
      | cons y sb => simp only [List.length_cons] at hb; rw [decide_eq_true (by omega)]; rfl
  | x :: sa, [], pa, pb, ea, eb, hp => by
    have hl : a.length = pa.length + (sa.length + 1) := by rw [← ea]; simp
    have hb : b.length = pb.length := by rw [← eb]; simp
    refine Ev.step (f := fun k => spec_SetLess.j1 k a b (pa.length : Int) false) (fun k => ?_) (Ev.step (f := fun _ => some (setLess (x :: sa) [])) (fun k => ?_) (Ev.now _))
    · simp only [spec_SetLess.l0]; rw [if_pos (by omega), decide_eq_false (by omega)]
    · simp only [spec_SetLess.j1]; rw [if_neg (by simp), decide_eq_false (by omega)]; rfl
  | x :: sa, y :: sb, pa, pb, ea, eb, hp => by
    have hl : a.length = pa.length + (sa.length + 1) := by rw [← ea]; simp
    have hb : b.length = pb.length + (sb.length + 1) := by rw [← eb]; simp
    have ga : a.getD pa.length z83 = x := by rw [← ea]; simp
    have gb : b.getD pa.length z83 = y := by rw [← eb, hp]; simp
    have ih := specSetLess_l0 a b ha sa sb (pa ++ [x]) (pb ++ [y]) (by rw [← ea]; simp) (by rw [← eb]; simp) (by simp [hp])
    refine Ev.step (f := fun k => spec_SetLess.j1 k a b (pa.length : Int) true) (fun k => ?_) ?_
    · simp only [spec_SetLess.l0]; rw [if_pos (by omega), decide_eq_true (by omega)]
    · refine Ev.step (f := fun k => if x.f0.toList = y.f0.toList then (if x.f1.toList = y.f1.toList then spec_SetLess.l0 k a b ((pa.length + 1 : Nat) : Int) else some (Op.bytesLess x.f1.toList y.f1.toList)) else some (Op.bytesLess x.f0.toList y.f0.toList)) (fun k => ?_) ?_
      · simp only [spec_SetLess.j1, spec_Less.f, Option.bind_some]
        rw [if_pos trivial, if_pos (by omega), if_pos (by omega), if_pos (by omega), rdnLabel, rdnLabel, ga, gb, wrap_up _ (by omega)]
      · unfold setLess
        by_cases h1 : x.f0.toList = y.f0.toList
        · simp only [if_pos h1]
          by_cases h2 : x.f1.toList = y.f1.toList
          · simp only [if_pos h2]; simpa using ih
          · simp only [if_neg h2]; exact Ev.now _
        · simp only [if_neg h1]; exact Ev.now _
theorem specSetLess_ev (a b : List S83) (ha : a.length < 4611686018427387904) : Ev (fun k => spec_SetLess.f k a b) (setLess a b) := by
  unfold spec_SetLess.f
  exact specSetLess_l0 a b ha a b [] [] rfl rfl rfl
theorem specL4Copy_ev (x : S37) (h : x.f0.length ≤ 5000000) : spec_l4Copy.f x.f0 x.f1 x.f2 x.f3 = some (x.f0, x.f1, x.f2, x.f3) := by
  simp only [spec_l4Copy.f, Option.bind_some, List.nil_append, List.length_nil]
  exact if_pos (by omega)
theorem rdmmAlarm (pre suf : List S37) (y : S37) : rd_T37 (pre ++ y :: suf) (pre.length : Int) = y := by unfold rd_T37; simp
theorem specL4All_l0 : ∀ (suf pre : List S37), (pre ++ suf).length ≤ 5000000 → (∀ y ∈ suf, y.f0.length ≤ 5000000) → Ev (fun k => spec_l4All.l0 k (pre ++ suf) pre (pre.length : Int)) (pre ++ suf)
  | [], pre, h, hW => by
    refine Ev.step (f := fun _ => some (pre ++ [])) (fun k => ?_) (Ev.now _)
    simp only [spec_l4All.l0]
    rw [if_neg (not_lt_end pre), List.append_nil]
  | y :: suf, pre, h, hW => by
    have ih := specL4All_l0 suf (pre ++ [y]) (by simpa using h) (fun z hz => hW z (List.mem_cons_of_mem _ hz))
    have hp : pre.length < 5000000 := by simp at h; omega
    refine Ev.step (f := fun k => spec_l4All.l0 k ((pre ++ [y]) ++ suf) (pre ++ [y]) ((pre ++ [y]).length : Int)) (fun k => ?_) (by rw [mid_assoc pre suf y]; exact ih)
    simp only [spec_l4All.l0]
    rw [if_pos (lt_mid pre suf y)]
    simp only [nn, if_true, rdmmAlarm, specL4Copy_ev y (hW y List.mem_cons_self), Option.bind_some, wrap_up pre.length (by omega)]
    rw [if_pos (by omega)]
    congr 1
    · simp
    · simp
theorem specL4All_ev (l : List S37) (h : l.length ≤ 5000000) (hW : ∀ y ∈ l, y.f0.length ≤ 5000000) : Ev (fun k => spec_l4All.f k l) l :=
  Ev.congr (fun k => by unfold spec_l4All.f; rfl) (specL4All_l0 l [] (by simpa using h) hW)
theorem scan_map {ρ σ : Type} (h : ρ → σ) (step : Nat → Option ρ) (fin : ρ) : ∀ d i, scan (fun i => (step i).map h) (h fin) d i = h (scan step fin d i)
  | 0, i => rfl
  | d + 1, i => by
    unfold scan
    cases hs : step i with
    | some r => rfl
    | none => exact scan_map h step fin d (i + 1)
/-- Where the alarm goes: ahead of the first one that it is less than. -/
def insAt (l : List S37) (a : S37) (i : Nat) : List S37 := (l.take i ++ [a]) ++ l.drop i
def insStep (l : List S37) (a : S37) (i : Nat) : Option (List S37) := if setLess a.f0 (l.getD i z37).f0 = true then some (insAt l a i) else none
def ins (l : List S37) (a : S37) : List S37 := scan (insStep l a) (insAt l a l.length) l.length 0
def putL (l : List S37) (a : S37) (t : Int) : List S37 := if t ≥ 0 then l.set t.toNat a else ins l a
def joinIn (g : S33) (a : S37) : S33 := ⟨g.f0, g.f1, g.f2, g.f3, putL g.f4 a (labelsAt g.f4 a.f0)⟩
theorem insAt_length (l : List S37) (a : S37) (i : Nat) : (insAt l a i).length = l.length + 1 := by
  unfold insAt; simp only [List.length_append, List.length_take, List.length_drop, List.length_singleton]; omega
theorem insAt_mem {l : List S37} {a : S37} {i : Nat} {y : S37} (h : y ∈ insAt l a i) : y ∈ l ∨ y = a := by
  unfold insAt at h
  rcases List.mem_append.1 h with h | h
  · rcases List.mem_append.1 h with h | h
    · exact .inl (List.mem_of_mem_take h)
    · exact .inr (List.mem_singleton.1 h)
  · exact .inl (List.mem_of_mem_drop h)
theorem scan_or {ρ : Type} (Q : ρ → Prop) {step : Nat → Option ρ} {fin : ρ} (hf : Q fin) (hs : ∀ i r, step i = some r → Q r) : ∀ d i, Q (scan step fin d i)
  | 0, _ => hf
  | d + 1, i => by
    unfold scan
    cases h : step i with
    | some r => exact hs i r h
    | none => exact scan_or Q hf hs d (i + 1)
theorem ins_ok (l : List S37) (a : S37) : (ins l a).length = l.length + 1 ∧ ∀ y ∈ ins l a, y ∈ l ∨ y = a :=
  scan_or (fun r => r.length = l.length + 1 ∧ ∀ y ∈ r, y ∈ l ∨ y = a) ⟨insAt_length l a _, fun y hy => insAt_mem hy⟩ (fun i r h => by
    unfold insStep at h
    by_cases c : setLess a.f0 (l.getD i z37).f0 = true
    · rw [if_pos c] at h; cases h; exact ⟨insAt_length l a _, fun y hy => insAt_mem hy⟩
    · rw [if_neg c] at h; cases h) _ _
theorem putL_ok (l : List S37) (a : S37) (t : Int) : (putL l a t).length ≤ l.length + 1 ∧ ∀ y ∈ putL l a t, y ∈ l ∨ y = a := by
  unfold putL
  by_cases c : t ≥ 0
  · rw [if_pos c]; exact ⟨by rw [List.length_set]; omega, fun y hy => List.mem_or_eq_of_mem_set hy⟩
  · rw [if_neg c]; exact ⟨by rw [(ins_ok l a).1]; omega, (ins_ok l a).2⟩
theorem joinIn_wi {g : S33} {a : S37} (hl : g.f4.length ≤ 1048576) (h : WiGroup g) (ha : WiAlarm a) : WiGroup (joinIn g a) := by
  obtain ⟨h1, h2⟩ := putL_ok g.f4 a (labelsAt g.f4 a.f0)
  refine ⟨trivial, h.2.1, trivial, trivial, by show (putL g.f4 a (labelsAt g.f4 a.f0)).length ≤ 4000000; omega, fun y hy => ?_⟩
  rcases h2 y hy with h3 | rfl
  · exact h.2.2.2.2.2 y h3
  · exact ha
theorem toNat_nat (i : Nat) : ((i : Int)).toNat = i := Int.toNat_natCast i
theorem okA {l : List S37} (h : l.length ≤ 4000000 ∧ ∀ y ∈ l, WiAlarm y) : l.length ≤ 5000000 ∧ ∀ y ∈ l, y.f0.length ≤ 5000000 := ⟨by omega, fun y hy => Nat.le_trans (h.2 y hy).1.1 (by decide)⟩
/-- Behind the place: what is ahead of it, the alarm, what is behind it. -/
theorem specBehind_ev {σ : Type} (F : List S37 → σ) (l : List S37) (a : S37) (i : Nat) (hi : i ≤ l.length) (h : l.length ≤ 4000000 ∧ ∀ y ∈ l, WiAlarm y) : Ev (fun k => (spec_l4All.f k (l.take (i : Int).toNat)).bind fun t => (if t.length < 2513169434916 then ((some (t ++ [(⟨a.f0, a.f1, a.f2, a.f3⟩ : S37)] : List S37)).bind fun y => ((spec_l4All.f k (l.drop (i : Int).toNat)).bind fun t2 => (if y.length + t2.length < 2513169434916 then (some (F (y ++ t2))) else none))) else none)) (F (insAt l a i)) := by
  obtain ⟨o1, o2⟩ := okA h
  obtain ⟨K1, g1⟩ := specL4All_ev (l.take i) (by rw [List.length_take]; omega) (fun y hy => o2 y (List.mem_of_mem_take hy))
  obtain ⟨K2, g2⟩ := specL4All_ev (l.drop i) (by rw [List.length_drop]; omega) (fun y hy => o2 y (List.mem_of_mem_drop hy))
  refine ⟨K1 + K2, fun k hk => ?_⟩
  have e1 := g1 k (by omega)
  have e2 := g2 k (by omega)
  simp only at e1 e2
  simp only [toNat_nat, e1, Option.bind_some]
  rw [if_pos (by rw [List.length_take]; omega), e2]
  simp only [Option.bind_some]
  rw [if_pos (by simp only [List.length_append, List.length_take, List.length_drop, List.length_singleton]; omega)]
  rfl
theorem putL_scan (l : List S37) (a : S37) : putL l a (labelsAt l a.f0) = scan (fun i => if sameSet (l.getD i z37).f0 a.f0 = true then some (l.set i a) else none) (ins l a) l.length 0 := by
  unfold labelsAt
  rw [← scan_place0 (fun y : S37 => sameSet y.f0 a.f0) z37 l, ← scan_map (putL l a)]
  have e0 : putL l a (-1) = ins l a := by unfold putL; rw [if_neg (by omega)]
  rw [e0]
  refine scan_congr _ _ (fun j _ _ => ?_)
  by_cases c : sameSet (l.getD j z37).f0 a.f0 = true
  · simp only [if_pos c, Option.map_some]; unfold putL; rw [if_pos (by omega), toNat_nat]
  · simp only [if_neg c, Option.map_none]
theorem specJoinIn_l1 (g : S33) (a : S37) (h : WiGroup g) (ha : WiAlarm a) : Ev (fun k => spec_JoinIn.l1 k 0 g.f0 g.f1 g.f2 g.f3 g.f4 a.f0 a.f1 a.f2 a.f3 g.f0 g.f1 g.f2 g.f3 g.f4 a.f0 a.f1 a.f2 a.f3) (g.f0, g.f1, g.f2, g.f3, ins g.f4 a) := by
  have hl := h.2.2.2.2
  have h1 := hl.1
  unfold ins
  rw [← scan_map (fun r : List S37 => (g.f0, g.f1, g.f2, g.f3, r))]
  refine scan_ev2 (F := fun k i => spec_JoinIn.l1 k i g.f0 g.f1 g.f2 g.f3 g.f4 a.f0 a.f1 a.f2 a.f3 g.f0 g.f1 g.f2 g.f3 g.f4 a.f0 a.f1 a.f2 a.f3) (n := g.f4.length) ?_ (fun i hi => ?_) g.f4.length 0 (by omega)
  · obtain ⟨K, g1⟩ := specBehind_ev (fun r : List S37 => (g.f0, g.f1, g.f2, g.f3, r)) g.f4 a g.f4.length (Nat.le_refl _) hl
    refine ⟨K, fun k hk => ?_⟩
    have e := g1 k hk
    simp only at e
    simp only [spec_JoinIn.l1]
    rw [if_neg (by omega), if_pos (by omega), if_pos (by omega)]
    exact e
  · obtain ⟨K1, g1⟩ := specSetLess_ev a.f0 (g.f4.getD i z37).f0 (by have := ha.1.1; omega)
    obtain ⟨K2, g2⟩ := specBehind_ev (fun r : List S37 => (g.f0, g.f1, g.f2, g.f3, r)) g.f4 a i (by omega) hl
    refine ⟨K1 + K2, fun k hk => ?_⟩
    have e1 := g1 k (by omega)
    have e2 := g2 k (by omega)
    simp only at e1 e2
    simp only [spec_JoinIn.l1]
    rw [if_pos (by omega), if_pos (by omega), rdnAlarm, e1]
    simp only [Option.bind_some]
    unfold insStep
    by_cases c : setLess a.f0 (g.f4.getD i z37).f0 = true
    · rw [if_pos c, if_pos c, if_pos (by omega)]; exact e2
    · rw [if_neg c, if_neg c, wrap_up i (by omega)]; rfl
theorem specJoinIn_ev (g : S33) (a : S37) (h : WiGroup g) (ha : WiAlarm a) : Ev (fun k => spec_JoinIn.f k g.f0 g.f1 g.f2 g.f3 g.f4 a.f0 a.f1 a.f2 a.f3) ((joinIn g a).f0, (joinIn g a).f1, (joinIn g a).f2, (joinIn g a).f3, (joinIn g a).f4) := by
  have hl := h.2.2.2.2
  have h1 := hl.1
  obtain ⟨o1, o2⟩ := okA hl
  obtain ⟨K1, g1⟩ := specL4All_ev g.f4 o1 o2
  have hs : Ev (fun k => spec_JoinIn.l0 k 0 g.f0 g.f1 g.f2 g.f3 g.f4 a.f0 a.f1 a.f2 a.f3 g.f0 g.f1 g.f2 g.f3 g.f4 a.f0 a.f1 a.f2 a.f3) (g.f0, g.f1, g.f2, g.f3, putL g.f4 a (labelsAt g.f4 a.f0)) := by
    rw [putL_scan, ← scan_map (fun r : List S37 => (g.f0, g.f1, g.f2, g.f3, r))]
    refine scan_ev2 (F := fun k i => spec_JoinIn.l0 k i g.f0 g.f1 g.f2 g.f3 g.f4 a.f0 a.f1 a.f2 a.f3 g.f0 g.f1 g.f2 g.f3 g.f4 a.f0 a.f1 a.f2 a.f3) (n := g.f4.length) ?_ (fun i hi => ?_) g.f4.length 0 (by omega)
    · obtain ⟨K, g2⟩ := specJoinIn_l1 g a h ha
      refine ⟨K, fun k hk => ?_⟩
      have e := g2 k hk
      simp only at e
      simp only [spec_JoinIn.l0]
      rw [if_neg (by omega)]
      exact e
    · have hw := (hl.2 _ (getD_mem g.f4 i z37 hi)).1.1
      obtain ⟨K2, g2⟩ := specSameSet_ev (g.f4.getD i z37).f0 a.f0 (by omega)
      refine ⟨K2, fun k hk => ?_⟩
      have e := g2 k hk
      simp only at e
      simp only [spec_JoinIn.l0]
      rw [if_pos (by omega), if_pos (by omega), rdnAlarm, e]
      simp only [Option.bind_some]
      by_cases c : sameSet (g.f4.getD i z37).f0 a.f0 = true
      · rw [if_pos c, if_pos c, if_pos (by omega), toNat_nat]; rfl
      · rw [if_neg c, if_neg c, wrap_up i (by omega)]; rfl
  obtain ⟨K2, g2⟩ := hs
  refine ⟨K1 + K2, fun k hk => ?_⟩
  have e1 := g1 k (by omega)
  have e2 := g2 k (by omega)
  simp only at e1 e2
  have hk2 := h.2.1.1
  unfold spec_JoinIn.f spec_l11Copy.f
  simp only [Option.bind_some, List.nil_append, List.length_nil, e1, specL4Copy_ev a (Nat.le_trans ha.1.1 (by decide))]
  rw [if_pos (by omega)]
  simp only [Option.bind_some]
  exact e2
theorem rdnString3 (l : List ByteArray) (i : Nat) : rdOf ByteArray.empty l (i : Int) = l.getD i ByteArray.empty := by unfold rdOf; simp
def hasText (l : List ByteArray) (s : ByteArray) : Bool := l.any (fun t => decide (t.toList = s.toList))
theorem scan_any {α : Type} (p : α → Bool) (z : α) : ∀ (suf pre : List α), scan (fun i => if p ((pre ++ suf).getD i z) = true then some true else none) false suf.length pre.length = suf.any p
  | [], pre => by simp [scan]
  | y :: suf, pre => by
    have ih := scan_any p z suf (pre ++ [y])
    simp only [List.append_assoc, List.singleton_append, List.length_append, List.length_singleton] at ih
    simp only [List.length_cons, scan]
    rw [show (pre ++ y :: suf).getD pre.length z = y by simp]
    by_cases hp : p y = true
    · simp [hp]
    · simp only [if_neg hp]; rw [ih]; simp [hp]
theorem scan_any0 {α : Type} (p : α → Bool) (z : α) (l : List α) : scan (fun i => if p (l.getD i z) = true then some true else none) false l.length 0 = l.any p := scan_any p z l []
theorem specHas_ev (l : List ByteArray) (s : ByteArray) (h : l.length < 4611686018427387904) : Ev (fun k => spec_l5Has.f k l s) (hasText l s) := by
  unfold spec_l5Has.f hasText
  rw [← scan_any0 (fun t : ByteArray => decide (t.toList = s.toList)) ByteArray.empty l]
  refine scan_ev (F := fun k i => spec_l5Has.l0 k l s i) (n := l.length) (fun k => ?_) (fun i hi => ⟨0, fun k _ => ?_⟩) l.length 0 (by omega)
  · simp only [spec_l5Has.l0]; rw [if_neg (by omega)]
  · simp only [spec_l5Has.l0]
    rw [if_pos (by omega), if_pos (by omega), rdnString3, wrap_up i (by omega)]
    by_cases hc : (l.getD i ByteArray.empty).toList = s.toList
    · rw [if_pos hc, if_pos (decide_eq_true hc)]; rfl
    · rw [if_neg hc, if_neg (by simpa using hc)]; rfl
def project (l : List S83) (b : List ByteArray) : List S83 := l.filter (fun x => hasText b x.f0)
theorem project_length (l : List S83) (b : List ByteArray) : (project l b).length ≤ l.length := List.length_filter_le _ _
theorem specProject_l0 (b : List ByteArray) (hb : b.length < 4611686018427387904) (x8 : List S83) (h : x8.length ≤ 4000000) : ∀ (suf pre acc : List S83), pre ++ suf = x8 → acc.length ≤ pre.length →
    Ev (fun k => spec_Project.l0 k x8 b acc (pre.length : Int)) (acc ++ project suf b)
  | [], pre, acc, e, ha => by
    refine Ev.step (f := fun _ => some acc) (fun k => ?_) (by simpa [project] using Ev.now acc)
    simp only [spec_Project.l0]
    rw [if_neg (by rw [← e]; simp)]
  | y :: suf, pre, acc, e, ha => by
    have hl : pre.length < x8.length := by rw [← e]; simp
    have hg : x8.getD pre.length z83 = y := by rw [← e]; simp
    have g := specHas_ev b y.f0 hb
    refine Ev.step (f := fun k => (spec_l5Has.f k b y.f0).bind fun t => if t = true then spec_Project.l0 k x8 b (acc ++ [y]) ((pre.length + 1 : Nat) : Int) else spec_Project.l0 k x8 b acc ((pre.length + 1 : Nat) : Int)) (fun k => ?_) (Ev.bind g ?_)
    · simp only [spec_Project.l0]
      rw [if_pos (by omega), if_pos (by omega), rdnLabel, hg, wrap_up _ (by omega), if_pos (by omega)]
    · cases hc : hasText b y.f0 with
      | true =>
        simp only [if_true]
        have ih := specProject_l0 b hb x8 h suf (pre ++ [y]) (acc ++ [y]) (by rw [← e]; simp) (by simp; omega)
        simpa [project, List.filter_cons, hc] using ih
      | false =>
        simp only [Bool.false_eq_true, if_false]
        have ih := specProject_l0 b hb x8 h suf (pre ++ [y]) acc (by rw [← e]; simp) (by simp; omega)
        simpa [project, List.filter_cons, hc] using ih
theorem specProject_ev (l : List S83) (b : List ByteArray) (h : l.length ≤ 4000000) (hb : b.length < 4611686018427387904) : Ev (fun k => spec_Project.f k l b) (project l b) := by
  unfold spec_Project.f
  exact specProject_l0 b hb l h l [] [] rfl (by simp)
theorem specKeyOf_ev (x : S37) (b : List ByteArray) (h : x.f0.length ≤ 4000000) (hb : b.length < 4611686018427387904) : Ev (fun k => spec_KeyOf.f k x.f0 x.f1 x.f2 x.f3 b) (project x.f0 b) := by
  unfold spec_KeyOf.f
  exact Ev.bind (specProject_ev x.f0 b h hb) (Ev.now _)
def ShortC (c : S26) : Prop := c.f5.length ≤ 3 ∧ ∀ y ∈ c.f5, y.size ≤ 4000000
theorem shortC_wi {c : S26} (h : ShortC c) : WiConf c := ⟨trivial, trivial, trivial, trivial, trivial, ⟨Nat.le_trans h.1 (by decide), h.2⟩⟩
section
variable (l : List Int) (hl : l.length ≤ 1048576)
include hl
theorem dBy (p s : Int) (hp : 0 ≤ p) : ∃ v p' s', spec_l5By.f l p s = some (v, p', s') ∧ 0 ≤ p' ∧ v.length ≤ 2 ∧ ∀ y ∈ v, y.size ≤ 4000000 := by
  obtain ⟨b, p2, s2, e2, q2, b0, b1⟩ := dBelow l hl p s 5 hp (by decide) (by decide)
  by_cases c0 : b = 0
  · exact ⟨[], p2, s2, by simp only [spec_l5By.f, e2, Option.bind_some, if_pos c0], q2, by decide, fun y hy => by simp at hy⟩
  by_cases c1 : b = 1
  · refine ⟨[(⟨#[97, 112, 112]⟩ : ByteArray), (⟨#[115, 101, 118]⟩ : ByteArray)], p2, s2, by simp only [spec_l5By.f, e2, Option.bind_some, if_neg c0, if_pos c1], q2, by decide, fun y hy => ?_⟩
    simp only [List.mem_cons, List.not_mem_nil, or_false] at hy
    rcases hy with rfl | rfl <;> decide
  by_cases c2 : b = 2
  · refine ⟨[(⟨#[104, 111, 115, 116]⟩ : ByteArray)], p2, s2, by simp only [spec_l5By.f, e2, Option.bind_some, if_neg c0, if_neg c1, if_pos c2], q2, by decide, fun y hy => ?_⟩
    simp only [List.mem_cons, List.not_mem_nil, or_false] at hy
    rw [hy]; decide
  · refine ⟨[(⟨#[97, 112, 112]⟩ : ByteArray)], p2, s2, by simp only [spec_l5By.f, e2, Option.bind_some, if_neg c0, if_neg c1, if_neg c2], q2, by decide, fun y hy => ?_⟩
    simp only [List.mem_cons, List.not_mem_nil, or_false] at hy
    rw [hy]; decide
theorem dAnyBy (p s : Int) (hp : 0 ≤ p) : ∃ v p' s', spec_l5Any.f l p s = some (v, p', s') ∧ 0 ≤ p' ∧ v.length ≤ 3 ∧ ∀ y ∈ v, y.size ≤ 4000000 := by
  obtain ⟨v, p1, s1, e1, q1, w1, w2⟩ := dBy l hl p s hp
  obtain ⟨b, p2, s2, e2, q2⟩ := dOnce l hl p1 s1 4 q1 (by decide) (by decide)
  cases b with
  | false => exact ⟨v, p2, s2, by simp only [spec_l5Any.f, e1, Option.bind_some, e2, Bool.false_eq_true, if_false], q2, by omega, w2⟩
  | true =>
    obtain ⟨t, p3, s3, e3, q3, ht⟩ := dAnyName l hl p2 s2 q2
    refine ⟨v ++ [t], p3, s3, by simp only [spec_l5Any.f, e1, Option.bind_some, e2, if_true, e3]; rw [if_pos (by omega)], q3, by simp only [List.length_append, List.length_singleton]; omega, fun y hy => ?_⟩
    rcases List.mem_append.1 hy with h | h
    · exact w2 y h
    · rw [List.mem_singleton.1 h]; exact ht
theorem dConf (p s : Int) (hp : 0 ≤ p) : ∃ (c : S26) (p' s' : Int), spec_l13Draw.f l p s = some (c.f0, c.f1, c.f2, c.f3, c.f4, c.f5, p', s') ∧ 0 ≤ p' ∧ ShortC c := by
  obtain ⟨b1, p1, s1, e1, q1, _, _⟩ := dBelow l hl p s 3 hp (by decide) (by decide)
  obtain ⟨b2, p2, s2, e2, q2, _⟩ := dInt l hl p1 s1 [1, 2, 4, 8] q1 (by decide) (by decide)
  obtain ⟨b3, p3, s3, e3, q3, _, _⟩ := dBelow l hl p2 s2 2 q2 (by decide) (by decide)
  obtain ⟨b4, p4, s4, e4, q4, _, _⟩ := dBelow l hl p3 s3 3 q3 (by decide) (by decide)
  obtain ⟨b5, p5, s5, e5, q5, _, _⟩ := dBelow l hl p4 s4 4 q4 (by decide) (by decide)
  obtain ⟨v, p6, s6, e6, q6, w1, w2⟩ := dBy l hl p5 s5 q5
  exact ⟨⟨wrap64 (1 + b1), b2, wrap64 (1 + b3), wrap64 (1 + b4), wrap64 (1 + b5), v⟩, p6, s6, by simp only [spec_l13Draw.f, e1, e2, e3, e4, e5, e6, Option.bind_some], q6, ⟨by show v.length ≤ 3; omega, w2⟩⟩
theorem dAnyConf (p s : Int) (hp : 0 ≤ p) : ∃ (c : S26) (p' s' : Int), spec_l13Any.f l p s = some (c.f0, c.f1, c.f2, c.f3, c.f4, c.f5, p', s') ∧ 0 ≤ p' ∧ ShortC c := by
  obtain ⟨c, p1, s1, e1, q1, w⟩ := dConf l hl p s hp
  obtain ⟨b, p2, s2, e2, q2, _, _⟩ := dBelow l hl p1 s1 14 q1 (by decide) (by decide)
  by_cases c0 : b = 0
  · obtain ⟨v, p3, s3, e3, q3, _⟩ := dInt l hl p2 s2 [0, 4] q2 (by decide) (by decide)
    exact ⟨⟨v, c.f1, c.f2, c.f3, c.f4, c.f5⟩, p3, s3, by simp only [spec_l13Any.f, e1, Option.bind_some, e2, if_pos c0, e3], q3, w⟩
  by_cases c1 : b = 1
  · obtain ⟨v, p3, s3, e3, q3, _⟩ := dInt l hl p2 s2 [0, 9] q2 (by decide) (by decide)
    exact ⟨⟨c.f0, v, c.f2, c.f3, c.f4, c.f5⟩, p3, s3, by simp only [spec_l13Any.f, e1, Option.bind_some, e2, if_neg c0, if_pos c1, e3], q3, w⟩
  by_cases c2 : b = 2
  · obtain ⟨v, p3, s3, e3, q3, _⟩ := dInt l hl p2 s2 [0, 3] q2 (by decide) (by decide)
    exact ⟨⟨c.f0, c.f1, v, c.f3, c.f4, c.f5⟩, p3, s3, by simp only [spec_l13Any.f, e1, Option.bind_some, e2, if_neg c0, if_neg c1, if_pos c2, e3], q3, w⟩
  by_cases c3 : b = 3
  · obtain ⟨v, p3, s3, e3, q3, _⟩ := dInt l hl p2 s2 [0, 9, 10] q2 (by decide) (by decide)
    exact ⟨⟨c.f0, c.f1, c.f2, v, c.f4, c.f5⟩, p3, s3, by simp only [spec_l13Any.f, e1, Option.bind_some, e2, if_neg c0, if_neg c1, if_neg c2, if_pos c3, e3], q3, w⟩
  by_cases c4 : b = 4
  · obtain ⟨v, p3, s3, e3, q3, _⟩ := dInt l hl p2 s2 [0, 9, 10] q2 (by decide) (by decide)
    exact ⟨⟨c.f0, c.f1, c.f2, c.f3, v, c.f5⟩, p3, s3, by simp only [spec_l13Any.f, e1, Option.bind_some, e2, if_neg c0, if_neg c1, if_neg c2, if_neg c3, if_pos c4, e3], q3, w⟩
  by_cases c5 : b = 5
  · obtain ⟨v, p3, s3, e3, q3, w1, w2⟩ := dAnyBy l hl p2 s2 q2
    exact ⟨⟨c.f0, c.f1, c.f2, c.f3, c.f4, v⟩, p3, s3, by simp only [spec_l13Any.f, e1, Option.bind_some, e2, if_neg c0, if_neg c1, if_neg c2, if_neg c3, if_neg c4, if_pos c5, e3], q3, ⟨w1, w2⟩⟩
  · exact ⟨c, p2, s2, by simp only [spec_l13Any.f, e1, Option.bind_some, e2, if_neg c0, if_neg c1, if_neg c2, if_neg c3, if_neg c4, if_neg c5], q2, w⟩
omit hl in
theorem specTogether_ex (a b : S37) (by_ : List ByteArray) (ha : ShortA a) (hb : ShortA b) (hy : by_.length ≤ 100) : ∃ v, Ev (fun k => spec_Together.f k a.f0 a.f1 a.f2 a.f3 b.f0 b.f1 b.f2 b.f3 by_) v := by
  obtain ⟨K1, g1⟩ := specKeyOf_ev a by_ (by have := ha.1; omega) (by omega)
  obtain ⟨K2, g2⟩ := specKeyOf_ev b by_ (by have := hb.1; omega) (by omega)
  obtain ⟨K3, g3⟩ := specSameSet_ev (project a.f0 by_) (project b.f0 by_) (by have := project_length a.f0 by_; have := ha.1; omega)
  refine ⟨sameSet (project a.f0 by_) (project b.f0 by_), K1 + K2 + K3, fun k hk => ?_⟩
  have e1 := g1 k (by omega)
  have e2 := g2 k (by omega)
  have e3 := g3 k (by omega)
  simp only at e1 e2 e3
  simp only [spec_Together.f, e1, e2, Option.bind_some, e3]
omit hl in
theorem joinIn_len (g : S33) (a : S37) : (joinIn g a).f4.length ≤ g.f4.length + 1 := (putL_ok g.f4 a (labelsAt g.f4 a.f0)).1
theorem dGroup_l0 (by_ : List ByteArray) (hy : by_.length ≤ 100) (a : S37) (ha : ShortA a) : ∀ (n : Nat) (g : S33) (p s : Int), 0 ≤ p → g.f4.length + n ≤ 1000 → WiGroup g →
    ∃ (r : S33) (p' s' : Int), Ev (fun k => spec_l11Draw.l0 k by_ (n : Int) l p s a.f0 a.f1 a.f2 a.f3 g.f0 g.f1 g.f2 g.f3 g.f4) (r.f0, r.f1, r.f2, r.f3, r.f4, p', s') ∧ 0 ≤ p'
  | 0, g, p, s, hp, hn, hw => by
    obtain ⟨b, p2, s2, e2, q2⟩ := dOnce l hl p s 2 hp (by decide) (by decide)
    cases b with
    | true =>
      obtain ⟨v, p3, s3, e3, q3, _, _⟩ := dBelow l hl p2 s2 9 q2 (by decide) (by decide)
      refine ⟨⟨g.f0, g.f1, g.f2, wrap64 (g.f2 + v), g.f4⟩, p3, s3, ⟨1, fun k hk => ?_⟩, q3⟩
      obtain ⟨k, rfl⟩ : ∃ j, k = j + 1 := ⟨k - 1, by omega⟩
      simp only [spec_l11Draw.l0]
      rw [if_neg (by omega), e2]
      simp only [Option.bind_some, if_true, e3]
    | false =>
      refine ⟨g, p2, s2, ⟨1, fun k hk => ?_⟩, q2⟩
      obtain ⟨k, rfl⟩ : ∃ j, k = j + 1 := ⟨k - 1, by omega⟩
      simp only [spec_l11Draw.l0]
      rw [if_neg (by omega), e2]
      simp only [Option.bind_some, Bool.false_eq_true, if_false]
  | n + 1, g, p, s, hp, hn, hw => by
    obtain ⟨b, p1, s1, ⟨K1, g1⟩, q1, w, w2, ht⟩ := dAlarm l hl p s hp
    have hb : ShortA b := shortA_mk _ _ w (by decide) ht
    obtain ⟨v, K2, g2⟩ := specTogether_ex a b by_ ha hb hy
    have hz : wrap64 (((n + 1 : Nat) : Int) - 1) = (n : Int) := by rw [wrap_id (by omega) (by omega)]; omega
    cases v with
    | true =>
      obtain ⟨K3, g3⟩ := specJoinIn_ev g b hw hb.2
      obtain ⟨r, p', s', ⟨K, gg⟩, q⟩ := dGroup_l0 by_ hy a ha n (joinIn g b) p1 s1 q1 (by have := joinIn_len g b; omega) (joinIn_wi (by omega) hw hb.2)
      refine ⟨r, p', s', ⟨K + K1 + K2 + K3 + 1, fun k hk => ?_⟩, q⟩
      obtain ⟨k, rfl⟩ : ∃ j, k = j + 1 := ⟨k - 1, by omega⟩
      have e := gg k (by omega)
      have e1 := g1 k (by omega)
      have e2 := g2 k (by omega)
      have e3 := g3 k (by omega)
      simp only at e e1 e2 e3
      simp only [spec_l11Draw.l0]
      rw [if_pos (by omega), e1]
      simp only [Option.bind_some, e2, if_true, e3, hz, e]
    | false =>
      obtain ⟨r, p', s', ⟨K, gg⟩, q⟩ := dGroup_l0 by_ hy a ha n g p1 s1 q1 (by omega) hw
      refine ⟨r, p', s', ⟨K + K1 + K2 + 1, fun k hk => ?_⟩, q⟩
      obtain ⟨k, rfl⟩ : ∃ j, k = j + 1 := ⟨k - 1, by omega⟩
      have e := gg k (by omega)
      have e1 := g1 k (by omega)
      have e2 := g2 k (by omega)
      simp only at e e1 e2
      simp only [spec_l11Draw.l0]
      rw [if_pos (by omega), e1]
      simp only [Option.bind_some, e2, Bool.false_eq_true, if_false, hz, e]
theorem dGroup (p s : Int) (hp : 0 ≤ p) (by_ : List ByteArray) (hy : by_.length ≤ 100) : ∃ (r : S33) (p' s' : Int), Ev (fun k => spec_l11Draw.f k l p s by_) (r.f0, r.f1, r.f2, r.f3, r.f4, p', s') ∧ 0 ≤ p' := by
  obtain ⟨a, p1, s1, ⟨K1, g1⟩, q1, w, w2, ht⟩ := dAlarm l hl p s hp
  have ha : ShortA a := shortA_mk _ _ w (by decide) ht
  obtain ⟨b2, p2, s2, e2, q2, _, _⟩ := dBelow l hl p1 s1 5 q1 (by decide) (by decide)
  obtain ⟨K3, g3⟩ := specKeyOf_ev a by_ (by have := ha.1; omega) (by omega)
  obtain ⟨b4, p4, s4, e4, q4, _, _⟩ := dBelow l hl p2 s2 5 q2 (by decide) (by decide)
  obtain ⟨b5, p5, s5, e5, q5, c0, c1⟩ := dBelow l hl p4 s4 8 q4 (by decide) (by decide)
  obtain ⟨n, rfl⟩ : ∃ n : Nat, b5 = (n : Int) := ⟨b5.toNat, by omega⟩
  have hk : WiGroup ⟨b2, project a.f0 by_, b4, -1, [a]⟩ := ⟨trivial, ⟨Nat.le_trans (project_length _ _) ha.2.1.1, fun y hy => ha.2.1.2 y (List.mem_filter.1 hy).1⟩, trivial, trivial, ⟨by show ([a] : List S37).length ≤ 4000000; simp, fun y hy => by rw [List.mem_singleton.1 hy]; exact ha.2⟩⟩
  obtain ⟨r, p', s', ⟨K, gg⟩, q⟩ := dGroup_l0 l hl by_ hy a ha n ⟨b2, project a.f0 by_, b4, -1, [a]⟩ p5 s5 q5 (by simp only [List.length_singleton]; omega) hk
  refine ⟨r, p', s', ⟨K + K1 + K3, fun k hk => ?_⟩, q⟩
  have e := gg k (by omega)
  have e1 := g1 k (by omega)
  have e3 := g3 k (by omega)
  simp only at e e1 e3
  simp only [spec_l11Draw.f, e1, Option.bind_some, e2, e3, e4, e5]
  exact e
end
/-- Each byte of a plain text. -/
def plainStep {ρ : Type} (no : ρ) (s : ByteArray) (i : Nat) : Option ρ := if (bt s (i : Int)) < 32 then some no else if (bt s (i : Int)) > 126 then some no else if (bt s (i : Int)) = 34 then some no else if (bt s (i : Int)) = 92 then some no else none
def plainOk (s : ByteArray) : Bool := decide ((s.size : Int) ≤ 12) && scan (plainStep false s) true s.size 0
theorem plainStep_false (s : ByteArray) (i : Nat) (r : Bool) (h : plainStep false s i = some r) : r = false := by
  unfold plainStep at h
  repeat (split at h; (injection h with h; exact h.symm))
  cases h
theorem implPlainOk_ev (s : ByteArray) (h : s.size < 4611686018427387904) : Ev (fun k => impl_PlainOk.f k s) (plainOk s) := by
  unfold impl_PlainOk.f plainOk
  by_cases hc : (s.size : Int) > 12
  · simp only [if_pos hc, decide_eq_false (show ¬ (s.size : Int) ≤ 12 by omega), Bool.false_and]; exact Ev.now _
  · simp only [if_neg hc, decide_eq_true (show (s.size : Int) ≤ 12 by omega), Bool.true_and]
    refine scan_ev (F := fun k i => impl_PlainOk.l0 k s i) (n := s.size) (fun k => ?_) (fun i hi => ⟨0, fun k _ => ?_⟩) s.size 0 (by omega)
    · simp only [impl_PlainOk.l0]; rw [if_neg (by omega)]
    · simp only [impl_PlainOk.l0, plainStep]
      rw [if_pos (by omega), if_pos (by omega), wrap_up i (by omega)]
      repeat (split; rfl)
      rfl
theorem specPlainOk_ev (s : ByteArray) (h : s.size < 4611686018427387904) : Ev (fun k => spec_PlainOk.f k s) (plainOk s) := by
  unfold spec_PlainOk.f plainOk
  rw [← scan_end (plainStep_false s)]
  refine scan_ev (F := fun k i => spec_PlainOk.l0 k s i) (n := s.size) (fun k => ?_) (fun i hi => ⟨0, fun k _ => ?_⟩) s.size 0 (by omega)
  · simp only [spec_PlainOk.l0]; rw [if_neg (by omega)]
  · simp only [spec_PlainOk.l0, plainStep]
    rw [if_pos (by omega), if_pos (by omega), wrap_up i (by omega)]
    repeat (split; rfl)
    rfl
def labelOk (x : S83) : Bool := nameOk x.f0 && plainOk x.f1
theorem implLabelOk_ev (x : S83) (h : WiLabel x) : Ev (fun k => impl_LabelOk.f k x.f0 x.f1) (labelOk x) := by
  have h1 := h.1
  have h2 := h.2
  obtain ⟨K1, g1⟩ := implNameOk_ev x.f0 (by omega)
  obtain ⟨K2, g2⟩ := implPlainOk_ev x.f1 (by omega)
  refine ⟨K1 + K2, fun k hk => ?_⟩
  have e1 := g1 k (by omega)
  have e2 := g2 k (by omega)
  simp only at e1 e2
  simp only [impl_LabelOk.f, e1, e2, Option.bind_some, labelOk]
  cases nameOk x.f0 <;> simp
theorem specLabelOk_ev (x : S83) (h : WiLabel x) : Ev (fun k => spec_LabelOk.f k x.f0 x.f1) (labelOk x) := by
  have h1 := h.1
  have h2 := h.2
  obtain ⟨K1, g1⟩ := specNameOk_ev x.f0 (by omega)
  obtain ⟨K2, g2⟩ := specPlainOk_ev x.f1 (by omega)
  refine ⟨K1 + K2, fun k hk => ?_⟩
  have e1 := g1 k (by omega)
  have e2 := g2 k (by omega)
  simp only at e1 e2
  simp only [spec_LabelOk.f, e1, e2, Option.bind_some, labelOk]
  cases nameOk x.f0 <;> simp
/-- Is label i right, behind the one before it? -/
def setBit (l : List S83) (i : Nat) : Bool := labelOk (l.getD i z83) && (decide (i = 0) || Op.bytesLess (l.getD (i - 1) z83).f0.toList (l.getD i z83).f0.toList)
def setStep (l : List S83) (i : Nat) : Option Bool := if setBit l i = true then none else some false
def setOk (l : List S83) : Bool := decide ((l.length : Int) ≤ 4) && scan (setStep l) true l.length 0
theorem setStep_false (l : List S83) (i : Nat) (r : Bool) (h : setStep l i = some r) : r = false := by
  unfold setStep at h
  split at h
  · cases h
  · injection h with h; exact h.symm
theorem scan_stop {step : Nat → Option Bool} (hf : ∀ i r, step i = some r → r = false) : ∀ d i j, i ≤ j → j < i + d → step j = some false → scan step true d i = false
  | 0, i, j, h1, h2, _ => by omega
  | d + 1, i, j, h1, h2, h3 => by
    unfold scan
    cases hs : step i with
    | some r => exact hf i r hs
    | none =>
      by_cases e : i = j
      · subst e; rw [hs] at h3; cases h3
      · exact scan_stop hf d (i + 1) j (by omega) (by omega) h3
theorem sub1 (i : Nat) (h : 0 < i) (hi : i < 4611686018427387904) : wrap64 ((i : Int) - 1) = ((i - 1 : Nat) : Int) := by rw [wrap_id (by omega) (by omega)]; omega
theorem implSetOk_ev (l : List S83) (h : l.length ≤ 4000000 ∧ ∀ y ∈ l, WiLabel y) : Ev (fun k => impl_SetOk.f k l) (setOk l) := by
  have h1 := h.1
  have hx : setOk l = scan (fun i => if 4 ≤ i then some false else setStep l i) true l.length 0 := by
    unfold setOk
    by_cases h4 : l.length ≤ 4
    · rw [decide_eq_true (show (l.length : Int) ≤ 4 by omega), Bool.true_and]
      exact scan_congr _ _ (fun j _ hj => by rw [if_neg (by omega)])
    · rw [decide_eq_false (show ¬ (l.length : Int) ≤ 4 by omega), Bool.false_and]
      exact (scan_stop (step := fun i => if 4 ≤ i then some false else setStep l i) (fun i r hr => by
        by_cases hi : 4 ≤ i
        · simp only [if_pos hi] at hr; injection hr with hr; exact hr.symm
        · simp only [if_neg hi] at hr; exact setStep_false l i r hr) l.length 0 4 (by omega) (by omega) (by simp)).symm
  rw [hx]
  unfold impl_SetOk.f
  refine scan_ev (F := fun k i => impl_SetOk.l0 k l l (l.length : Int) i) (n := l.length) (fun k => ?_) (fun i hi => ?_) l.length 0 (by omega)
  · simp only [impl_SetOk.l0]; rw [if_neg (by omega)]
  · obtain ⟨K, g⟩ := implLabelOk_ev (l.getD i z83) (h.2 _ (getD_mem l i _ hi))
    refine ⟨K, fun k hk => ?_⟩
    have e := g k hk
    simp only at e
    simp only [impl_SetOk.l0]
    rw [if_pos (by omega), if_pos (by omega), if_pos (by omega)]
    by_cases h4 : 4 ≤ i
    · rw [if_pos (by omega), if_pos h4]; rfl
    · rw [if_neg (by omega), if_neg h4, rdnLabel, e, Option.bind_some, wrap_up i (by omega)]
      unfold setStep setBit
      cases hl : labelOk (l.getD i z83) with
      | false => simp [goOn]
      | true =>
        by_cases h0 : i = 0
        · subst h0; simp [goOn]
        · rw [if_pos rfl, if_pos (by omega), sub1 i (by omega) (by omega), if_pos (by omega), if_pos (by omega), rdnLabel, decide_eq_false h0]
          cases Op.bytesLess (l.getD (i - 1) z83).f0.toList (l.getD i z83).f0.toList <;> simp [goOn]
theorem specSetOk_ev (l : List S83) (h : l.length ≤ 4000000 ∧ ∀ y ∈ l, WiLabel y) : Ev (fun k => spec_SetOk.f k l) (setOk l) := by
  have h1 := h.1
  unfold spec_SetOk.f setOk
  rw [← scan_end (setStep_false l)]
  refine scan_ev (F := fun k i => spec_SetOk.l0 k l i) (n := l.length) (fun k => ?_) (fun i hi => ?_) l.length 0 (by omega)
  · simp only [spec_SetOk.l0]; rw [if_neg (by omega)]
  · obtain ⟨K, g⟩ := specLabelOk_ev (l.getD i z83) (h.2 _ (getD_mem l i _ hi))
    refine ⟨K, fun k hk => ?_⟩
    have e := g k hk
    simp only at e
    simp only [spec_SetOk.l0, spec_Less.f]
    rw [if_pos (by omega), if_pos (by omega), rdnLabel, e, Option.bind_some, wrap_up i (by omega)]
    unfold setStep setBit
    cases hl : labelOk (l.getD i z83) with
    | false => simp [goOn]
    | true =>
      by_cases h0 : i = 0
      · subst h0; simp [goOn]
      · rw [if_pos rfl, if_pos (by omega), sub1 i (by omega) (by omega), if_pos (by omega), if_pos (by omega), rdnLabel, decide_eq_false h0]
        cases Op.bytesLess (l.getD (i - 1) z83).f0.toList (l.getD i z83).f0.toList <;> simp [goOn]
def alarmOk (x : S37) : Bool := setOk x.f0 && (decide ((x.f0.length : Int) > 0) && ((decide (0 ≤ x.f1) && decide (x.f1 ≤ 99999)) && ((decide (x.f1 ≤ x.f2) && decide (x.f2 ≤ 99999)) && plainOk x.f3)))
theorem implAlarmOk_ev (x : S37) (h : WiAlarm x) : Ev (fun k => impl_AlarmOk.f k x.f0 x.f1 x.f2 x.f3) (alarmOk x) := by
  have h3 := h.2.2.2
  obtain ⟨K1, g1⟩ := implSetOk_ev x.f0 h.1
  obtain ⟨K2, g2⟩ := implPlainOk_ev x.f3 (by omega)
  refine ⟨K1 + K2, fun k hk => ?_⟩
  have e1 := g1 k (by omega)
  have e2 := g2 k (by omega)
  simp only at e1 e2
  simp only [impl_AlarmOk.f, e1, e2, Option.bind_some, alarmOk, inEq]
  by_cases hl : (x.f0.length : Int) > 0
  · rw [if_pos hl, decide_eq_true hl]
    cases setOk x.f0 <;> cases (decide (0 ≤ x.f1) && decide (x.f1 ≤ 99999)) <;> cases (decide (x.f1 ≤ x.f2) && decide (x.f2 ≤ 99999)) <;> simp
  · rw [if_neg hl, decide_eq_false hl]
    cases setOk x.f0 <;> simp
theorem specAlarmOk_ev (x : S37) (h : WiAlarm x) : Ev (fun k => spec_AlarmOk.f k x.f0 x.f1 x.f2 x.f3) (alarmOk x) := by
  have h3 := h.2.2.2
  obtain ⟨K1, g1⟩ := specSetOk_ev x.f0 h.1
  obtain ⟨K2, g2⟩ := specPlainOk_ev x.f3 (by omega)
  refine ⟨K1 + K2, fun k hk => ?_⟩
  have e1 := g1 k (by omega)
  have e2 := g2 k (by omega)
  simp only at e1 e2
  simp only [spec_AlarmOk.f, e1, e2, Option.bind_some, alarmOk, l1InEq]
  by_cases hl : (x.f0.length : Int) > 0
  · rw [if_pos hl, decide_eq_true hl]
    cases setOk x.f0 <;> cases (decide (0 ≤ x.f1) && decide (x.f1 ≤ 99999)) <;> cases (decide (x.f1 ≤ x.f2) && decide (x.f2 ≤ 99999)) <;> simp
  · rw [if_neg hl, decide_eq_false hl]
    cases setOk x.f0 <;> simp
end Go.Proofs.YtanfohlpkppeiaaDoor.Print
end
section
/- The law FnConfs answers true for all arguments that can be read: the pure statement, without Go and memory. No condition. -/
namespace Go.Proofs.YtanfohlpkppeiaaDoor.Print
open Go.RowKit Go.Proofs.YtanfohlpkppeiaaDoorV.PrintWords Go.Proofs.YtanfohlpkppeiaaDoorV.PrintLast Go.Proofs.YtanfohlpkppeiaaDoorV.PrintMore
set_option linter.unusedVariables false
set_option linter.unusedSimpArgs false
theorem drawConfOk_ev (l : List Int) (hl : l.length ≤ 1048576) : ∃ c : S26, Ev (fun k => spec_DrawConfOk.f k l) (c.f0, c.f1, c.f2, c.f3, c.f4, c.f5) ∧ ShortC c := by
  obtain ⟨s0, K0, g0⟩ := dNew l hl
  obtain ⟨c, p1, s1, e1, q1, w⟩ := dAnyConf l hl 0 s0 (by decide)
  refine ⟨c, ⟨K0, fun k hk => ?_⟩, w⟩
  have e0 := g0 k hk
  simp only at e0
  simp only [spec_DrawConfOk.f, e0, Option.bind_some, e1]
theorem drawConfText_ev (l : List Int) (hl : l.length ≤ 1048576) : ∃ c : S26, Ev (fun k => spec_DrawConfText.f k l) (c.f0, c.f1, c.f2, c.f3, c.f4, c.f5) ∧ ShortC c := by
  obtain ⟨s0, K0, g0⟩ := dNew l hl
  obtain ⟨c, p1, s1, e1, q1, w⟩ := dAnyConf l hl 0 s0 (by decide)
  refine ⟨c, ⟨K0, fun k hk => ?_⟩, w⟩
  have e0 := g0 k hk
  simp only at e0
  simp only [spec_DrawConfText.f, e0, Option.bind_some, e1]
theorem drawDue_ev (l : List Int) (hl : l.length ≤ 1048576) : ∃ (c : S26) (r : S33), Ev (fun k => spec_DrawDue.f k l) (c.f0, c.f1, c.f2, c.f3, c.f4, c.f5, r.f0, r.f1, r.f2, r.f3, r.f4) := by
  obtain ⟨s0, K0, g0⟩ := dNew l hl
  obtain ⟨c, p1, s1, e1, q1, w⟩ := dAnyConf l hl 0 s0 (by decide)
  obtain ⟨r, p2, s2, ⟨K2, g2⟩, q2⟩ := dGroup l hl p1 s1 q1 c.f5 (by have := w.1; omega)
  refine ⟨c, r, ⟨K0 + K2, fun k hk => ?_⟩⟩
  have e0 := g0 k (by omega)
  have e2 := g2 k (by omega)
  simp only at e0 e2
  simp only [spec_DrawDue.f, e0, Option.bind_some, e1, e2]
theorem drawSameConf_ev (l : List Int) (hl : l.length ≤ 1048576) : ∃ c d : S26, Ev (fun k => spec_DrawSameConf.f k l) (c.f0, c.f1, c.f2, c.f3, c.f4, c.f5, d.f0, d.f1, d.f2, d.f3, d.f4, d.f5) ∧ ShortC c ∧ ShortC d := by
  obtain ⟨s0, K0, g0⟩ := dNew l hl
  obtain ⟨c, p1, s1, e1, q1, w⟩ := dAnyConf l hl 0 s0 (by decide)
  obtain ⟨b, p2, s2, e2, q2⟩ := dOnce l hl p1 s1 2 q1 (by decide) (by decide)
  cases b with
  | true =>
    refine ⟨c, c, ⟨K0, fun k hk => ?_⟩, w, w⟩
    have e0 := g0 k hk
    have e3 : spec_l13Copy.f c.f0 c.f1 c.f2 c.f3 c.f4 c.f5 = some (c.f0, c.f1, c.f2, c.f3, c.f4, c.f5) := by
      unfold spec_l13Copy.f
      simp only [Option.bind_some, List.nil_append, List.length_nil]
      rw [if_pos (by have := w.1; omega)]
    simp only at e0
    simp only [spec_DrawSameConf.f, e0, Option.bind_some, e1, e2, if_true, e3]
  | false =>
    obtain ⟨d, p3, s3, e3, q3, w3⟩ := dAnyConf l hl p2 s2 q2
    refine ⟨c, d, ⟨K0, fun k hk => ?_⟩, w, w3⟩
    have e0 := g0 k hk
    simp only at e0
    simp only [spec_DrawSameConf.f, e0, Option.bind_some, e1, e2, Bool.false_eq_true, if_false, e3]
theorem drawFits_ev (l : List Int) (hl : l.length ≤ 1048576) : ∃ (c : S26) (a : S37), Ev (fun k => spec_DrawFits.f k l) (c.f0, c.f1, c.f2, c.f3, c.f4, c.f5, a.f0, a.f1, a.f2, a.f3) ∧ ShortC c ∧ WiAlarm a := by
  obtain ⟨s0, K0, g0⟩ := dNew l hl
  obtain ⟨c, p1, s1, e1, q1, w⟩ := dAnyConf l hl 0 s0 (by decide)
  obtain ⟨a, p2, s2, ⟨K2, g2⟩, q2, wa⟩ := dAnyAlarm l hl p1 s1 q1
  obtain ⟨b, p3, s3, e3, q3⟩ := dOnce l hl p2 s2 4 q2 (by decide) (by decide)
  cases b with
  | true =>
    obtain ⟨v, p4, s4, e4, q4, _⟩ := dInt l hl p3 s3 [99899, 99900] q3 (by decide) (by decide)
    refine ⟨c, ⟨a.f0, a.f1, v, a.f3⟩, ⟨K0 + K2, fun k hk => ?_⟩, w, wa.2⟩
    have e0 := g0 k (by omega)
    have e2 := g2 k (by omega)
    simp only at e0 e2
    simp only [spec_DrawFits.f, e0, Option.bind_some, e1, e2, e3, if_true, e4]
  | false =>
    refine ⟨c, a, ⟨K0 + K2, fun k hk => ?_⟩, w, wa.2⟩
    have e0 := g0 k (by omega)
    have e2 := g2 k (by omega)
    simp only at e0 e2
    simp only [spec_DrawFits.f, e0, Option.bind_some, e1, e2, e3, Bool.false_eq_true, if_false]
theorem due_same (c : S26) (r : S33) : ∃ v, impl_Due.f c.f0 c.f1 c.f2 c.f3 c.f4 c.f5 r.f0 r.f1 r.f2 r.f3 r.f4 = some v ∧ spec_Due.f c.f0 c.f1 c.f2 c.f3 c.f4 c.f5 r.f0 r.f1 r.f2 r.f3 r.f4 = some v ∧ impl_NextDue.f r.f0 r.f1 r.f2 r.f3 r.f4 c.f3 c.f4 = some v := by
  unfold impl_Due.f spec_Due.f impl_NextDue.f spec_NextDue.f
  by_cases h : r.f3 = (-1)
  · rw [if_pos h]; exact ⟨_, rfl, rfl, rfl⟩
  · rw [if_neg h]; exact ⟨_, rfl, rfl, rfl⟩
theorem pure_FnConfs : laws_FnConfs.Pure := by
  intro l0 h0 h1 h2
  by_cases c : (l0.length : Int) > 1048576
  · exact ⟨0, by simp [laws_FnConfs.f, laws_big.f, c]⟩
  have hl : l0.length ≤ 1048576 := by omega
  obtain ⟨a, ⟨K1, g1⟩, wa⟩ := drawConfOk_ev l0 hl
  obtain ⟨x, y, ⟨K2, g2⟩, wx, wy⟩ := drawSameConf_ev l0 hl
  obtain ⟨t, ⟨K3, g3⟩, wt⟩ := drawConfText_ev l0 hl
  obtain ⟨d, r, ⟨K4, g4⟩⟩ := drawDue_ev l0 hl
  obtain ⟨f, b, ⟨K5, g5⟩, wf, wb⟩ := drawFits_ev l0 hl
  obtain ⟨K6, g6⟩ := implConfOk_ev a (shortC_wi wa)
  obtain ⟨K7, g7⟩ := specConfOk_ev a (shortC_wi wa)
  obtain ⟨K8, g8⟩ := implSameConf_ev x y (shortC_wi wx)
  obtain ⟨K9, g9⟩ := specSameConf_ev x y (shortC_wi wx)
  have ha := implSameConf_ev a a (shortC_wi wa)
  rw [show sameConf a a = true by simp [sameConf, sameTexts]] at ha
  obtain ⟨K10, g10⟩ := ha
  obtain ⟨v, ⟨K11, g11⟩, ⟨K12, g12⟩, hv⟩ := confText_ev t (shortC_wi wt)
  obtain ⟨K13, g13⟩ := implConfOk_ev t (shortC_wi wt)
  obtain ⟨u, e14, e15, e16⟩ := due_same d r
  obtain ⟨K17, g17⟩ := implAlarmOk_ev b wb
  obtain ⟨K18, g18⟩ := specAlarmOk_ev b wb
  let K := K1 + K2 + K3 + K4 + K5 + K6 + K7 + K8 + K9 + K10 + K11 + K12 + K13 + K17 + K18
  have f1 := g1 K (by omega)
  have f2 := g2 K (by omega)
  have f3 := g3 K (by omega)
  have f4 := g4 K (by omega)
  have f5 := g5 K (by omega)
  have f6 := g6 K (by omega)
  have f7 := g7 K (by omega)
  have f8 := g8 K (by omega)
  have f9 := g9 K (by omega)
  have f10 := g10 K (by omega)
  have f11 := g11 K (by omega)
  have f12 := g12 K (by omega)
  have f13 := g13 K (by omega)
  have f17 := g17 K (by omega)
  have f18 := g18 K (by omega)
  simp only at f1 f2 f3 f4 f5 f6 f7 f8 f9 f10 f11 f12 f13 f17 f18
  refine ⟨K, ?_⟩
  generalize K = k at *
  have e1 : impl_Fits.f k f.f0 f.f1 f.f2 f.f3 f.f4 f.f5 b.f0 b.f1 b.f2 b.f3 = some (alarmOk b && decide (b.f2 ≤ 99899)) := by
    simp only [impl_Fits.f, f17, Option.bind_some]; cases alarmOk b <;> simp
  have e2 : spec_Fits.f k f.f0 f.f1 f.f2 f.f3 f.f4 f.f5 b.f0 b.f1 b.f2 b.f3 = some (alarmOk b && decide (b.f2 ≤ 99899)) := by
    simp only [spec_Fits.f, f18, Option.bind_some]; cases alarmOk b <;> simp
  simp only [laws_FnConfs.f, laws_big.f, Option.bind_some, decide_eq_false c, Bool.false_eq_true, if_false, f1, f2, f3, f4, f5, f6, f7, beq_self_eq_true, if_true, f8, f9, f10, f11, f12, f13, hv, e14, e15, e16, e1, e2]
  by_cases hb : (alarmOk b && decide (b.f2 ≤ 99899)) = true
  · rw [if_pos hb, f17]
    simp only [Bool.and_eq_true] at hb
    simp only [Option.bind_some, hb.1]
  · rw [if_neg hb]
end Go.Proofs.YtanfohlpkppeiaaDoor.Print
namespace Go.Proofs.YtanfohlpkppeiaaDoor.Pure
theorem FnConfs : Go.Proofs.YtanfohlpkppeiaaDoor.Print.laws_FnConfs.Pure := Go.Proofs.YtanfohlpkppeiaaDoor.Print.pure_FnConfs
end Go.Proofs.YtanfohlpkppeiaaDoor.Pure
namespace Go.Proofs.YtanfohlpkppeiaaDoor.Print

end Go.Proofs.YtanfohlpkppeiaaDoor.Print
end
