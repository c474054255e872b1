/- The law FnExactConfText answers true for all arguments that can be read: the pure statement, without Go and memory. No condition. -/
import Derived.Test.YticgekgojgkbgaaDoorF0
import Derived.Test.YticgekgojgkbgaaDoorF9
import Derived.Test.YticgekgojgkbgaaDoorF10
import Derived.Test.YticgekgojgkbgaaDoorF25
import Derived.Test.YticgekgojgkbgaaDoorF40
import Derived.Test.YticgekgojgkbgaaDoorF41
import Derived.Test.YticgekgojgkbgaaDoorF44
import Derived.Test.YticgekgojgkbgaaDoorQBase
import Derived.Test.YticgekgojgkbgaaDoorQConfs
import Derived.Test.YticgekgojgkbgaaDoorQFamConf
import Derived.Test.YticgekgojgkbgaaDoorSFnExactConfText
namespace Go.Proofs.YticgekgojgkbgaaDoor.Print
open Go.RowKit Go.Proofs.YticgekgojgkbgaaDoorV.PrintWords Go.Proofs.YticgekgojgkbgaaDoorV.PrintLast Go.Proofs.YticgekgojgkbgaaDoorV.PrintMore
set_option linter.unusedVariables false
set_option linter.unusedSimpArgs false
theorem ct_ext {a b : ByteArray} (h : a.data.toList = b.data.toList) : a = b := by
  cases a; cases b; simpa using h
def dig (n : Int) : ByteArray := ⟨#[UInt8.ofNat (48 + n.toNat)]⟩
theorem dig_size (n : Int) : (dig n).size = 1 := rfl
theorem implNum (n : Int) (h0 : 1 ≤ n) (h1 : n ≤ 9) : impl_NumText.f n = some (dig n) := by
  have : n = 1 ∨ n = 2 ∨ n = 3 ∨ n = 4 ∨ n = 5 ∨ n = 6 ∨ n = 7 ∨ n = 8 ∨ n = 9 := by omega
  rcases this with rfl | rfl | rfl | rfl | rfl | rfl | rfl | rfl | rfl <;> decide +kernel
theorem specNum (n : Int) (h0 : 1 ≤ n) (h1 : n ≤ 9) (k : Nat) : spec_NumText.f (k + 2) n = some (dig n) := by
  have : n = 1 ∨ n = 2 ∨ n = 3 ∨ n = 4 ∨ n = 5 ∨ n = 6 ∨ n = 7 ∨ n = 8 ∨ n = 9 := by omega
  rcases this with rfl | rfl | rfl | rfl | rfl | rfl | rfl | rfl | rfl <;> (simp [spec_NumText.f, spec_NumText.l0, strOfNums, dig, wrap64]; exact ⟨by decide, ct_ext (by simp [ByteArray.data_append])⟩)
def ctext (s : ByteArray) (a b c d e : Int) : ByteArray := ((((((((((((⟨#[112, 97, 114, 116, 115, 32]⟩ : ByteArray) ++ dig a) ++ (⟨#[32, 99, 97, 112, 32]⟩ : ByteArray)) ++ dig b) ++ (⟨#[32, 115, 117, 98, 115, 32]⟩ : ByteArray)) ++ dig c) ++ (⟨#[32, 119, 97, 105, 116, 32]⟩ : ByteArray)) ++ dig d) ++ (⟨#[32, 101, 118, 101, 114, 121, 32]⟩ : ByteArray)) ++ dig e) ++ (⟨#[32, 98, 121, 32]⟩ : ByteArray)) ++ s)
theorem lz1 : (⟨#[112, 97, 114, 116, 115, 32]⟩ : ByteArray).size = 6 := rfl
theorem lz2 : (⟨#[32, 99, 97, 112, 32]⟩ : ByteArray).size = 5 := rfl
theorem lz3 : (⟨#[32, 115, 117, 98, 115, 32]⟩ : ByteArray).size = 6 := rfl
theorem lz4 : (⟨#[32, 119, 97, 105, 116, 32]⟩ : ByteArray).size = 6 := rfl
theorem lz5 : (⟨#[32, 101, 118, 101, 114, 121, 32]⟩ : ByteArray).size = 7 := rfl
theorem lz6 : (⟨#[32, 98, 121, 32]⟩ : ByteArray).size = 4 := rfl
theorem lz7 : (⟨#[44]⟩ : ByteArray).size = 1 := rfl
theorem w01 : wrap64 (0 + 1) = 1 := by rw [wrap_id (by omega) (by omega)]; rfl
theorem w12 : wrap64 (1 + 1) = 2 := by rw [wrap_id (by omega) (by omega)]; rfl
def In9 (n : Int) : Prop := 1 ≤ n ∧ n ≤ 9
theorem implTail (s : ByteArray) (a b c d e : Int) (l : List ByteArray) (hs : s.size ≤ 1000) (ha : In9 a) (hb : In9 b) (hc : In9 c) (hd : In9 d) (he : In9 e) (k : Nat) :
    impl_ConfText.j0 (k + 1) s a b c d e l = some (ctext s a b c d e) := by
  simp only [impl_ConfText.j0, implNum _ ha.1 ha.2, implNum _ hb.1 hb.2, implNum _ hc.1 hc.2, implNum _ hd.1 hd.2, implNum _ he.1 he.2, Option.bind_some, ByteArray.size_append, dig_size, lz1, lz2, lz3, lz4, lz5, lz6]
  have hz : 6 + 1 + 5 + 1 + 6 + 1 + 6 + 1 + 7 + 1 + 4 + s.size ≤ 9223372036854775807 := by omega
  simp [hz]
  rfl
theorem specTail (s : ByteArray) (i : Int) (a b c d e : Int) (l : List ByteArray) (hi : ¬ i < (l.length : Int)) (hs : s.size ≤ 1000) (ha : In9 a) (hb : In9 b) (hc : In9 c) (hd : In9 d) (he : In9 e) (k : Nat) :
    spec_ConfText.l0 (k + 3) s i a b c d e l = some (ctext s a b c d e) := by
  simp only [spec_ConfText.l0, if_neg hi, specNum _ ha.1 ha.2, specNum _ hb.1 hb.2, specNum _ hc.1 hc.2, specNum _ hd.1 hd.2, specNum _ he.1 he.2, Option.bind_some, ByteArray.size_append, dig_size, lz1, lz2, lz3, lz4, lz5, lz6]
  have hz : 6 + 1 + 5 + 1 + 6 + 1 + 6 + 1 + 7 + 1 + 4 + s.size ≤ 9223372036854775807 := by omega
  simp [hz]
  rfl
theorem nameOk_size {s : ByteArray} (h : nameOk s = true) : 1 ≤ s.size ∧ s.size ≤ 8 := by
  unfold nameOk at h
  simp only [Bool.and_eq_true, decide_eq_true_eq] at h
  omega
theorem join1 (x : ByteArray) (hx : x.size ≤ 8) : strings_Join.f [x] (⟨#[44]⟩ : ByteArray) = some x := by
  have hl : (Lib.join ([x].map (·.data.toList)) (⟨#[44]⟩ : ByteArray).data.toList) = x.data.toList := by simp [Lib.join_one]
  unfold strings_Join.f
  rw [hl, if_pos ⟨by simp, by have : x.data.toList.length = x.size := rfl; omega⟩]
theorem join2 (x y : ByteArray) (hx : x.size ≤ 8) (hy : y.size ≤ 8) : strings_Join.f [x, y] (⟨#[44]⟩ : ByteArray) = some ((x ++ (⟨#[44]⟩ : ByteArray)) ++ y) := by
  have hl : (Lib.join ([x, y].map (·.data.toList)) (⟨#[44]⟩ : ByteArray).data.toList) = ((x ++ (⟨#[44]⟩ : ByteArray)) ++ y).data.toList := by simp [Lib.join, List.intercalate, ByteArray.data_append]
  unfold strings_Join.f
  rw [hl, if_pos ⟨by simp, by
    have : ((x ++ (⟨#[44]⟩ : ByteArray)) ++ y).data.toList.length = ((x ++ (⟨#[44]⟩ : ByteArray)) ++ y).size := rfl
    rw [this]; simp only [ByteArray.size_append, lz7]; omega⟩]
theorem ne_nil {x : ByteArray} (h : 1 ≤ x.size) : ¬ x.toList = ([] : List UInt8) := by
  rw [ByteArray.toList_eq]; intro e
  have : x.data.toList.length = x.size := rfl
  rw [e] at this; simp at this; omega
theorem confText_ev (c : S27) (h : WiConf c) : ∃ v, Ev (fun k => impl_ConfText.f k c.f0 c.f1 c.f2 c.f3 c.f4 c.f5) v ∧ Ev (fun k => spec_ConfText.f k c.f0 c.f1 c.f2 c.f3 c.f4 c.f5) v := by
  obtain ⟨K1, g1⟩ := implConfOk_ev c h
  obtain ⟨K2, g2⟩ := specConfOk_ev c h
  by_cases ok : confOk c = true
  · have ok2 := ok
    unfold confOk byOk at ok2
    simp only [Bool.and_eq_true, decide_eq_true_eq, List.all_eq_true] at ok2
    obtain ⟨⟨a0, a1⟩, ⟨b0, b1⟩, ⟨c0, c1⟩, ⟨d0, d1⟩, ⟨e0, e1⟩, hn, hl, _⟩ := ok2
    have ha : In9 c.f0 := ⟨a0, by omega⟩
    have hb : In9 c.f1 := ⟨b0, by omega⟩
    have hc : In9 c.f2 := ⟨c0, by omega⟩
    have hd : In9 c.f3 := ⟨d0, d1⟩
    have he : In9 c.f4 := ⟨e0, e1⟩
    obtain ⟨f0, f1, f2, f3, f4, l⟩ := c
    simp only at *
    match l, hn, hl with
    | [], _, _ =>
      refine ⟨ctext ⟨#[45]⟩ f0 f1 f2 f3 f4, ⟨K1 + 1, fun k hk => ?_⟩, ⟨K2 + 3, fun k hk => ?_⟩⟩
      · have e := g1 k (by omega)
        simp only [ok] at e
        obtain ⟨k, rfl⟩ : ∃ j, k = j + 1 := ⟨k - 1, by omega⟩
        have ej : strings_Join.f ([] : List ByteArray) (⟨#[44]⟩ : ByteArray) = some ⟨#[]⟩ := by decide +kernel
        have ei : (⟨#[]⟩ : ByteArray).toList = ([] : List UInt8) := by rw [ByteArray.toList_eq]
        simp only [impl_ConfText.f, e, Option.bind_some, if_true, ej, if_pos ei]
        exact implTail _ _ _ _ _ _ _ (by decide) ha hb hc hd he k
      · have e := g2 k (by omega)
        simp only [ok] at e
        obtain ⟨k, rfl⟩ : ∃ j, k = j + 3 := ⟨k - 3, by omega⟩
        simp only [spec_ConfText.f, e, Option.bind_some, if_true]
        exact specTail _ _ _ _ _ _ _ _ (by simp) (by decide) ha hb hc hd he k
    | [x], hn, _ =>
      have hx := nameOk_size (hn x (by simp))
      refine ⟨ctext x f0 f1 f2 f3 f4, ⟨K1 + 1, fun k hk => ?_⟩, ⟨K2 + 4, fun k hk => ?_⟩⟩
      · have e := g1 k (by omega)
        simp only [ok] at e
        obtain ⟨k, rfl⟩ : ∃ j, k = j + 1 := ⟨k - 1, by omega⟩
        simp only [impl_ConfText.f, e, Option.bind_some, if_true, join1 x hx.2, if_neg (ne_nil hx.1)]
        exact implTail _ _ _ _ _ _ _ (by omega) ha hb hc hd he k
      · have e := g2 k (by omega)
        simp only [ok] at e
        obtain ⟨k, rfl⟩ : ∃ j, k = j + 4 := ⟨k - 4, by omega⟩
        simp only [spec_ConfText.f, e, Option.bind_some, if_true]
        have st : spec_ConfText.l0 (k + 4) (⟨#[45]⟩ : ByteArray) 0 f0 f1 f2 f3 f4 [x] = spec_ConfText.l0 (k + 3) x 1 f0 f1 f2 f3 f4 [x] := by
          conv => lhs; unfold spec_ConfText.l0
          rw [if_pos (by simp), if_pos rfl, if_pos (by omega), w01]; rfl
        rw [st]
        exact specTail _ _ _ _ _ _ _ _ (by simp) (by omega) ha hb hc hd he k
    | [x, y], hn, _ =>
      have hx := nameOk_size (hn x (by simp))
      have hy := nameOk_size (hn y (by simp))
      have hz : ((x ++ (⟨#[44]⟩ : ByteArray)) ++ y).size = x.size + 1 + y.size := by simp only [ByteArray.size_append, lz7]
      refine ⟨ctext ((x ++ (⟨#[44]⟩ : ByteArray)) ++ y) f0 f1 f2 f3 f4, ⟨K1 + 1, fun k hk => ?_⟩, ⟨K2 + 5, fun k hk => ?_⟩⟩
      · have e := g1 k (by omega)
        simp only [ok] at e
        obtain ⟨k, rfl⟩ : ∃ j, k = j + 1 := ⟨k - 1, by omega⟩
        simp only [impl_ConfText.f, e, Option.bind_some, if_true, join2 x y hx.2 hy.2, if_neg (ne_nil (x := (x ++ (⟨#[44]⟩ : ByteArray)) ++ y) (by omega))]
        exact implTail _ _ _ _ _ _ _ (by omega) ha hb hc hd he k
      · have e := g2 k (by omega)
        simp only [ok] at e
        obtain ⟨k, rfl⟩ : ∃ j, k = j + 5 := ⟨k - 5, by omega⟩
        simp only [spec_ConfText.f, e, Option.bind_some, if_true]
        have st : spec_ConfText.l0 (k + 5) (⟨#[45]⟩ : ByteArray) 0 f0 f1 f2 f3 f4 [x, y] = spec_ConfText.l0 (k + 4) x 1 f0 f1 f2 f3 f4 [x, y] := by
          conv => lhs; unfold spec_ConfText.l0
          rw [if_pos (by simp), if_pos rfl, if_pos (by omega), w01]; rfl
        have st2 : spec_ConfText.l0 (k + 4) x 1 f0 f1 f2 f3 f4 [x, y] = spec_ConfText.l0 (k + 3) ((x ++ (⟨#[44]⟩ : ByteArray)) ++ y) 2 f0 f1 f2 f3 f4 [x, y] := by
          have ey : rdOf ByteArray.empty [x, y] 1 = y := rfl
          conv => lhs; unfold spec_ConfText.l0
          rw [if_pos (by simp), if_neg (by omega), if_pos (by omega), if_pos (by omega), ey, if_pos (by simp only [ByteArray.size_append, lz7]; omega), w12]
        rw [st, st2]
        exact specTail _ _ _ _ _ _ _ _ (by simp) (by omega) ha hb hc hd he k
    | x :: y :: z :: r, _, hl => exfalso; simp only [List.length_cons] at hl; omega
  · refine ⟨⟨#[]⟩, ⟨K1, fun k hk => ?_⟩, ⟨K2, fun k hk => ?_⟩⟩
    · have e := g1 k hk
      simp only [Bool.not_eq_true] at ok
      simp only [ok] at e
      simp only [impl_ConfText.f, e, Option.bind_some, Bool.false_eq_true, if_false]
    · have e := g2 k hk
      simp only [Bool.not_eq_true] at ok
      simp only [ok] at e
      simp only [spec_ConfText.f, e, Option.bind_some, Bool.false_eq_true, if_false]
theorem pure_FnExactConfText : laws_FnExactConfText.Pure := by
  intro p0_0 p0_1 p0_2 p0_3 p0_4 p0_5 hp0_0 hp0_1 hp0_2 hp0_3 hp0_4 hp0_5
  obtain ⟨r0, ⟨K0, g0⟩, le0, w0⟩ := szConf_ev (⟨p0_0, p0_1, p0_2, p0_3, p0_4, p0_5⟩ : S24) ⟨hp0_0, hp0_1, hp0_2, hp0_3, hp0_4, hp0_5⟩ 1048576 (by omega) (by omega)
  simp only at g0
  by_cases c0 : r0 < 0
  · exact ⟨K0, by simp [laws_FnExactConfText.f, g0 (K0) (by omega), c0]⟩
  obtain ⟨L0, f0⟩ := toConf_ev (⟨p0_0, p0_1, p0_2, p0_3, p0_4, p0_5⟩ : S24) (w0 (by omega))
  obtain ⟨L1, f1⟩ := eqConf_ev (cvConf (⟨p0_0, p0_1, p0_2, p0_3, p0_4, p0_5⟩ : S24)) (Wi_cvConf (w0 (by omega)))
  obtain ⟨v, ⟨L2, f2⟩, ⟨L3, f3⟩⟩ := confText_ev (cvConf (⟨p0_0, p0_1, p0_2, p0_3, p0_4, p0_5⟩ : S24)) (Wi_cvConf (w0 (by omega)))
  have G0 := fun m => g0 (K0 + L0 + L1 + L2 + L3 + m) (by omega)
  have F0 := fun m => f0 (K0 + L0 + L1 + L2 + L3 + m) (by omega)
  have F1 := fun m => f1 (K0 + L0 + L1 + L2 + L3 + m) (by omega)
  have F2 := fun m => f2 (K0 + L0 + L1 + L2 + L3 + m) (by omega)
  have F3 := fun m => f3 (K0 + L0 + L1 + L2 + L3 + m) (by omega)
  simp only at F0 F1 F2 F3
  exact ⟨K0 + L0 + L1 + L2 + L3 + 3, by simp [laws_FnExactConfText.f, G0, F0, F1, F2, F3, c0]⟩

end Go.Proofs.YticgekgojgkbgaaDoor.Print
