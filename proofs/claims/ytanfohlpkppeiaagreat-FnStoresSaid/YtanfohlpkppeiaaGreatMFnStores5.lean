import Derived.Test.YtanfohlpkppeiaaGreatMFnStores1
import Derived.Test.YtanfohlpkppeiaaGreatMFnStores2
import Derived.Test.YtanfohlpkppeiaaGreatMFnStores3
import Derived.Test.YtanfohlpkppeiaaGreatMFnStores4
section
namespace Go.Proofs.YtanfohlpkppeiaaGreat.Print
open Go.RowKit Go.Proofs.YtanfohlpkppeiaaGreatV.PrintWords Go.Proofs.YtanfohlpkppeiaaGreatV.PrintLast Go.Proofs.YtanfohlpkppeiaaGreatV.PrintMore
set_option linter.unusedVariables false
set_option linter.unusedSimpArgs false
theorem rdmidLabeli (pre suf : List S99) (y : S99) : rd_T99 (pre ++ y :: suf) (pre.length : Int) = y := by unfold rd_T99; simp
def labL (x : S99) : List UInt8 := x.f0.data.toList ++ [61, 34] ++ x.f1.data.toList ++ [34]
def setTail : Bool → List S99 → List UInt8
  | _, [] => []
  | first, x :: r => (if first then [] else [44, 32]) ++ labL x ++ setTail false r
def setText (l : List S99) : ByteArray := if setOk l = true then ⟨([123] ++ setTail true l ++ [125]).toArray⟩ else ⟨#[]⟩
theorem ba_ext {a b : ByteArray} (h : a.data.toList = b.data.toList) : a = b := by
  cases a; cases b
  simp only at h
  rw [Array.toList_inj.1 h]
theorem ba_app (a b : ByteArray) : (a ++ b).data.toList = a.data.toList ++ b.data.toList := by simp [ByteArray.data_append]
theorem ba_len (a : ByteArray) : a.size = a.data.toList.length := rfl
theorem ba_szapp (a b : ByteArray) : (a ++ b).size = a.size + b.size := by rw [ba_len, ba_app, List.length_append, ← ba_len, ← ba_len]
theorem setOk_len (l : List S99) (h : setOk l = true) : l.length ≤ 4 := by
  unfold setOk at h
  rw [Bool.and_eq_true] at h
  have := of_decide_eq_true h.1
  omega
theorem sz2 : (⟨#[44, 32]⟩ : ByteArray).size = 2 := rfl
theorem sz2' : (⟨#[61, 34]⟩ : ByteArray).size = 2 := rfl
theorem sz1 : (⟨#[34]⟩ : ByteArray).size = 1 := rfl
theorem sz1a : (⟨#[123]⟩ : ByteArray).size = 1 := rfl
theorem specText_go : ∀ (suf pre : List S99) (acc : ByteArray), pre.length + suf.length ≤ 4 → (∀ y ∈ suf, WiLabel y) → acc.size ≤ 1 + pre.length * 10000000 →
    Ev (fun k => spec_SetText.l0 k (pre ++ suf) acc (pre.length : Int)) ⟨(acc.data.toList ++ setTail (decide (pre.length = 0)) suf ++ [125]).toArray⟩
  | [], pre, acc, h1, h2, h3 => by
    refine ⟨1, fun k hk => ?_⟩
    obtain ⟨m, rfl⟩ : ∃ m, k = m + 1 := ⟨k - 1, by omega⟩
    simp only [spec_SetText.l0]
    rw [if_neg (not_lt_end pre), if_pos (by simp only [List.length_nil] at h1; omega)]
    refine congrArg some (ba_ext ?_)
    rw [ba_app]
    simp [setTail]
  | y :: suf, pre, acc, h1, h2, h3 => by
    simp only [List.length_cons] at h1
    have hy := h2 y List.mem_cons_self
    have hy0 := hy.1
    have hy1 := hy.2
    have ih := fun a ha => specText_go suf (pre ++ [y]) a (by simp only [List.length_append, List.length_singleton]; omega) (fun z hz => h2 z (List.mem_cons_of_mem _ hz)) ha
    simp only [List.append_assoc, List.singleton_append, List.length_append, List.length_singleton] at ih
    by_cases hp : pre.length = 0
    · obtain ⟨K, hK⟩ := ih ((((acc ++ y.f0) ++ (⟨#[61, 34]⟩ : ByteArray)) ++ y.f1) ++ (⟨#[34]⟩ : ByteArray)) (by simp only [ba_szapp, sz2', sz1]; omega)
      refine ⟨K + 1, fun k hk => ?_⟩
      obtain ⟨m, rfl⟩ : ∃ m, k = m + 1 := ⟨k - 1, by omega⟩
      have e := hK m (by omega)
      simp only at e
      simp only [spec_SetText.l0, rdmidLabeli]
      rw [if_pos (lt_mid pre suf y), if_neg (by omega), if_pos (by omega), if_pos (by omega), if_pos (by simp only [ba_szapp]; omega), if_pos (by simp only [ba_szapp, sz2']; omega), if_pos (by simp only [ba_szapp, sz2']; omega), wrap_up pre.length (by omega), e]
      refine congrArg some (ba_ext ?_)
      simp only [ba_app, setTail, labL, hp, decide_true, if_true, List.nil_append, List.append_assoc]
      simp [setTail]
    · obtain ⟨K, hK⟩ := ih (((((acc ++ (⟨#[44, 32]⟩ : ByteArray)) ++ y.f0) ++ (⟨#[61, 34]⟩ : ByteArray)) ++ y.f1) ++ (⟨#[34]⟩ : ByteArray)) (by simp only [ba_szapp, sz2', sz2, sz1]; omega)
      refine ⟨K + 1, fun k hk => ?_⟩
      obtain ⟨m, rfl⟩ : ∃ m, k = m + 1 := ⟨k - 1, by omega⟩
      have e := hK m (by omega)
      simp only at e
      simp only [spec_SetText.l0, rdmidLabeli]
      rw [if_pos (lt_mid pre suf y), if_pos (by omega), if_pos (by omega), if_pos (by omega), if_pos (by simp only [ba_szapp, sz2]; omega), if_pos (by simp only [ba_szapp, sz2]; omega), if_pos (by simp only [ba_szapp, sz2, sz2']; omega), if_pos (by simp only [ba_szapp, sz2, sz2']; omega), wrap_up pre.length (by omega), e]
      refine congrArg some (ba_ext ?_)
      simp only [ba_app, setTail, labL, decide_eq_false hp, if_false, List.append_assoc]
      simp [setTail]
theorem specSetText_ev (l : List S99) (h : l.length ≤ 4000000 ∧ ∀ y ∈ l, WiLabel y) : Ev (fun k => spec_SetText.f k l) (setText l) := by
  obtain ⟨K, hK⟩ := specSetOk_ev l h
  by_cases ho : setOk l = true
  · have hl := setOk_len l ho
    obtain ⟨K', hK'⟩ := specText_go l [] (⟨#[123]⟩ : ByteArray) (by simp; omega) h.2 (by simp [sz1a])
    refine ⟨K + K', fun k hk => ?_⟩
    have e := hK k (by omega)
    have e' := hK' k (by omega)
    simp only at e
    simp only [List.nil_append, List.length_nil] at e'
    simp only [spec_SetText.f, e, Option.bind_some, ho, if_true, setText]
    exact e'
  · refine ⟨K, fun k hk => ?_⟩
    have e := hK k hk
    simp only at e
    simp [spec_SetText.f, e, ho, setText]
/-- The parts, each a text. -/
def partB (x : S99) : ByteArray := ((x.f0 ++ (⟨#[61, 34]⟩ : ByteArray)) ++ x.f1) ++ (⟨#[34]⟩ : ByteArray)
theorem partB_l (x : S99) : (partB x).data.toList = labL x := by simp [partB, labL, ba_app]
theorem tail_join : ∀ l : List S99, Lib.joinTail [44, 32] ((l.map partB).map (·.data.toList)) = setTail false l
  | [] => rfl
  | x :: r => by
    have ih := tail_join r
    unfold Lib.joinTail at ih ⊢
    simp only [List.map_cons, List.flatten_cons, setTail, ih, partB_l]
    simp
theorem all_join (l : List S99) : Lib.join ((l.map partB).map (·.data.toList)) [44, 32] = setTail true l := by
  cases l with
  | nil => rfl
  | cons x r =>
    have := tail_join r
    simp only [List.map_cons, Lib.join_cons, setTail, this, partB_l]
    simp
theorem setTail_len : ∀ (b : Bool) (l : List S99), (∀ y ∈ l, WiLabel y) → (setTail b l).length ≤ l.length * 10000000
  | _, [], _ => by simp [setTail]
  | b, x :: r, h => by
    have ih := setTail_len false r (fun y hy => h y (List.mem_cons_of_mem _ hy))
    have h0 := h x List.mem_cons_self
    have h1 := h0.1
    have h2 := h0.2
    have e1 : x.f0.data.toList.length = x.f0.size := rfl
    have e2 : x.f1.data.toList.length = x.f1.size := rfl
    cases b
    · simp only [setTail, labL, List.length_append, List.length_cons, List.length_nil, e1, e2, Bool.false_eq_true, if_false]; omega
    · simp only [setTail, labL, List.length_append, List.length_cons, List.length_nil, e1, e2, if_true]; omega
theorem implText_go (l : List S99) (hl : l.length ≤ 4) (hw : ∀ y ∈ l, WiLabel y) : ∀ (suf pre : List S99), pre ++ suf = l →
    Ev (fun k => impl_SetText.l0 k (pre.map partB) l (l.length : Int) (pre.length : Int)) ⟨([123] ++ setTail true l ++ [125]).toArray⟩
  | [], pre, h => by
    refine ⟨1, fun k hk => ?_⟩
    obtain ⟨m, rfl⟩ : ∃ m, k = m + 1 := ⟨k - 1, by omega⟩
    rw [List.append_nil] at h
    subst h
    have hj := all_join pre
    have ht := setTail_len true pre hw
    have hs : strings_Join.f (pre.map partB) (⟨#[44, 32]⟩ : ByteArray) = some ⟨(setTail true pre).toArray⟩ := by
      unfold strings_Join.f
      rw [show (⟨#[44, 32]⟩ : ByteArray).data.toList = [44, 32] from rfl, hj, List.length_map, if_pos ⟨by omega, by omega⟩]
    have hz : (⟨(setTail true pre).toArray⟩ : ByteArray).size = (setTail true pre).length := by simp [ByteArray.size]
    simp only [impl_SetText.l0]
    rw [if_neg (by omega), hs, Option.bind_some, if_pos (by rw [hz]; omega), if_pos (by rw [ba_szapp, hz, sz1a]; omega)]
    refine congrArg some (ba_ext ?_)
    simp [ba_app]
  | y :: suf, pre, h => by
    obtain ⟨K, hK⟩ := implText_go l hl hw suf (pre ++ [y]) (by rw [← h]; simp)
    have hy := hw y (by rw [← h]; simp)
    have hy0 := hy.1
    have hy1 := hy.2
    have hlen : pre.length < l.length := by rw [← h]; simp
    refine ⟨K + 1, fun k hk => ?_⟩
    obtain ⟨m, rfl⟩ : ∃ m, k = m + 1 := ⟨k - 1, by omega⟩
    have e := hK m (by omega)
    simp only [List.map_append, List.map_cons, List.map_nil, List.length_append, List.length_singleton] at e
    have hr : rd_T99 l (pre.length : Int) = y := by rw [← h]; exact rdmidLabeli pre suf y
    simp only [impl_SetText.l0, hr]
    rw [if_pos (by omega), if_pos (by omega), if_pos (by omega), if_pos (by omega), if_pos (by simp only [ba_szapp, sz2']; omega), if_pos (by simp only [ba_szapp, sz2']; omega), if_pos (by rw [List.length_map]; omega), wrap_up pre.length (by omega)]
    exact e
theorem implSetText_ev (l : List S99) (h : l.length ≤ 4000000 ∧ ∀ y ∈ l, WiLabel y) : Ev (fun k => impl_SetText.f k l) (setText l) := by
  obtain ⟨K, hK⟩ := implSetOk_ev l h
  by_cases ho : setOk l = true
  · have hl := setOk_len l ho
    obtain ⟨K', hK'⟩ := implText_go l hl h.2 l [] rfl
    refine ⟨K + K', fun k hk => ?_⟩
    have e := hK k (by omega)
    have e' := hK' k (by omega)
    simp only at e
    simp only [List.map_nil, List.length_nil] at e'
    simp only [impl_SetText.f, e, Option.bind_some, ho, if_true, setText]
    exact e'
  · refine ⟨K, fun k hk => ?_⟩
    have e := hK k hk
    simp only at e
    simp [impl_SetText.f, e, ho, setText]
theorem setText_sz (l : List S99) (h : l.length ≤ 4000000 ∧ ∀ y ∈ l, WiLabel y) : (setText l).size < 4611686018427387904 := by
  unfold setText
  split
  · have := setTail_len true l h.2
    have h1 := h.1
    rw [ba_len]
    simp only [List.length_append, List.length_singleton]
    omega
  · simp [ByteArray.size]
/-- A sum's step. -/
def sumStep (n b : Int) : Int := ((Go.bits .xor .u32 n b) * 16777619) % 4294967296
def sumGo (s : ByteArray) : Nat → Nat → Int → Int
  | 0, _, n => n
  | d + 1, i, n => sumGo s d (i + 1) (sumStep n (bt s (i : Int)))
theorem xor_nat (k : IntKind) (j : Nat) (hj : j ≤ k.bits) (hk : ∀ n : Int, 0 ≤ n → n < 2 ^ j → k.wrap n = n) (a b : Nat) (ha : a < 2 ^ j) (hb : b < 2 ^ j) :
    Go.bits .xor k a b = ((a ^^^ b : Nat) : Int) := by
  have hp : 2 ^ j ≤ 2 ^ k.bits := Nat.pow_le_pow_right (by decide) hj
  have ha' : a % 2 ^ k.bits = a := Nat.mod_eq_of_lt (Nat.lt_of_lt_of_le ha hp)
  have hb' : b % 2 ^ k.bits = b := Nat.mod_eq_of_lt (Nat.lt_of_lt_of_le hb hp)
  have cast : ∀ n : Nat, n < 2 ^ j → ((n : Nat) : Int) < 2 ^ j := fun n h => by exact_mod_cast h
  simp only [Go.bits, BitVec.ofInt_natCast, BitVec.toNat_xor, BitVec.toNat_ofNat, ha', hb']
  exact hk _ (Int.natCast_nonneg _) (cast _ (Nat.xor_lt_two_pow ha hb))
theorem xor_both (n b : Int) (h0 : 0 ≤ n) (h1 : n < 4294967296) (h2 : 0 ≤ b) (h3 : b ≤ 255) : ∃ X : Nat, X < 4294967296 ∧ Go.bits .xor .u32 n b = (X : Int) ∧ Go.bits .xor .i64 n b = (X : Int) := by
  obtain ⟨a, rfl⟩ := Int.eq_ofNat_of_zero_le h0
  obtain ⟨c, rfl⟩ := Int.eq_ofNat_of_zero_le h2
  have ha : a < 2 ^ 32 := by omega
  have hc : c < 2 ^ 32 := by omega
  refine ⟨a ^^^ c, Nat.xor_lt_two_pow ha hc, ?_, ?_⟩
  · exact xor_nat .u32 32 (by decide) (fun n h h' => by rw [IntKind.wrap_u32]; omega) a c ha hc
  · exact xor_nat .i64 32 (by decide) (fun n h h' => by rw [IntKind.wrap_i64]; omega) a c ha hc
theorem sumStep_range (n b : Int) : 0 ≤ sumStep n b ∧ sumStep n b < 4294967296 := by unfold sumStep; omega
theorem step_spec (n b : Int) (h0 : 0 ≤ n) (h1 : n < 4294967296) (h2 : 0 ≤ b) (h3 : b ≤ 255) :
    Go.bits .and .i64 (wrap64 ((Go.bits .xor .i64 n (wrap64 b)) * 16777619)) 4294967295 = sumStep n b := by
  obtain ⟨X, hX, e1, e2⟩ := xor_both n b h0 h1 h2 h3
  unfold sumStep
  rw [wrap_id (x := b) (by omega) (by omega), e1, e2, wrap_id (by omega) (by omega)]
  exact bits_mask .i64 62 (by decide) (fun n h h' => by rw [IntKind.wrap_i64]; omega) 32 (by decide) _ (by omega) (by omega)
theorem step_impl (n b : Int) (h2 : 0 ≤ b) (h3 : b ≤ 255) : ((Go.bits .xor .u32 n (b % 4294967296)) * 16777619) % 4294967296 = sumStep n b := by
  rw [Int.emod_eq_of_lt h2 (by omega)]; rfl
theorem implSum_go (s : ByteArray) (h : s.size < 4611686018427387904) : ∀ d i n, d + i = s.size → 0 ≤ n → n < 4294967296 → Ev (fun k => impl_Sum.l0 k s n (i : Int)) (sumGo s d i n)
  | 0, i, n, hd, h0, h1 => by
    refine ⟨1, fun k hk => ?_⟩
    obtain ⟨m, rfl⟩ : ∃ m, k = m + 1 := ⟨k - 1, by omega⟩
    simp only [impl_Sum.l0, sumGo]
    rw [if_neg (by omega), wrap_id (by omega) (by omega)]
  | d + 1, i, n, hd, h0, h1 => by
    have hr := sumStep_range n (bt s (i : Int))
    obtain ⟨K, hK⟩ := implSum_go s h d (i + 1) (sumStep n (bt s (i : Int))) (by omega) hr.1 hr.2
    refine ⟨K + 1, fun k hk => ?_⟩
    obtain ⟨m, rfl⟩ : ∃ m, k = m + 1 := ⟨k - 1, by omega⟩
    have e := hK m (by omega)
    have hb := bt_range s (i : Int)
    simp only [impl_Sum.l0, sumGo]
    rw [if_pos (by omega), if_pos (by omega), step_impl n _ hb.1 hb.2, wrap_up i (by omega)]
    exact e
theorem specSum_go (s : ByteArray) (h : s.size < 4611686018427387904) : ∀ d i n, d + i = s.size → 0 ≤ n → n < 4294967296 → Ev (fun k => spec_Sum.l0 k s n (i : Int)) (sumGo s d i n)
  | 0, i, n, hd, h0, h1 => by
    refine ⟨1, fun k hk => ?_⟩
    obtain ⟨m, rfl⟩ : ∃ m, k = m + 1 := ⟨k - 1, by omega⟩
    simp only [spec_Sum.l0, sumGo]
    rw [if_neg (by omega)]
  | d + 1, i, n, hd, h0, h1 => by
    have hr := sumStep_range n (bt s (i : Int))
    obtain ⟨K, hK⟩ := specSum_go s h d (i + 1) (sumStep n (bt s (i : Int))) (by omega) hr.1 hr.2
    refine ⟨K + 1, fun k hk => ?_⟩
    obtain ⟨m, rfl⟩ : ∃ m, k = m + 1 := ⟨k - 1, by omega⟩
    have e := hK m (by omega)
    have hb := bt_range s (i : Int)
    simp only [spec_Sum.l0, sumGo]
    rw [if_pos (by omega), if_pos (by omega), step_spec n _ h0 h1 hb.1 hb.2, wrap_up i (by omega)]
    exact e
def sumOf (s : ByteArray) : Int := sumGo s s.size 0 2166136261
def fingerOf (l : List S99) : Int := Int.tmod (Go.bits .xor .i64 (sumOf (setText l)) (sumOf (setText l) / 65536)) 32
theorem implFinger_ev (l : List S99) (h : l.length ≤ 4000000 ∧ ∀ y ∈ l, WiLabel y) : Ev (fun k => impl_Finger.f k l) (fingerOf l) := by
  obtain ⟨K, g⟩ := implSetText_ev l h
  obtain ⟨K', g'⟩ := implSum_go (setText l) (setText_sz l h) (setText l).size 0 2166136261 (by omega) (by omega) (by omega)
  refine ⟨K + K', fun k hk => ?_⟩
  have e := g k (by omega)
  have e' := g' k (by omega)
  simp only at e e'
  simp only [impl_Finger.f, impl_Sum.f, e, Option.bind_some, show ((0 : Nat) : Int) = 0 from rfl] at e' ⊢
  rw [e', Option.bind_some]; rfl
theorem specFinger_ev (l : List S99) (h : l.length ≤ 4000000 ∧ ∀ y ∈ l, WiLabel y) : Ev (fun k => spec_Finger.f k l) (fingerOf l) := by
  obtain ⟨K, g⟩ := specSetText_ev l h
  obtain ⟨K', g'⟩ := specSum_go (setText l) (setText_sz l h) (setText l).size 0 2166136261 (by omega) (by omega) (by omega)
  refine ⟨K + K', fun k hk => ?_⟩
  have e := g k (by omega)
  have e' := g' k (by omega)
  simp only at e e'
  simp only [spec_Finger.f, spec_Sum.f, e, Option.bind_some, show ((0 : Nat) : Int) = 0 from rfl] at e' ⊢
  rw [e', Option.bind_some]; rfl
def partOf (a n : Int) : Int := if n < 1 then 0 else if a < 0 then 0 else Int.tmod a n
theorem implPartOf_is (a n : Int) : impl_PartOf.f a n = some (partOf a n) := by
  unfold impl_PartOf.f partOf
  by_cases h : n < 1
  · simp [h]
  · by_cases h2 : a < 0
    · simp [h, h2]
    · simp only [if_neg h, if_neg h2]; rw [if_neg (by omega)]
theorem specPartOf_is (a n : Int) : spec_PartOf.f a n = some (partOf a n) := by
  unfold spec_PartOf.f partOf
  by_cases h : n < 1
  · simp [h]
  · by_cases h2 : a < 0
    · simp [h, h2]
    · simp only [if_neg h, if_neg h2]; rw [if_neg (by omega)]
theorem specL4Copy_ev (x : S29) (h : x.f0.length ≤ 5000000) : spec_l4Copy.f x.f0 x.f1 x.f2 x.f3 = some (x.f0, x.f1, x.f2, x.f3) := by
  simp only [spec_l4Copy.f, Option.bind_some, List.nil_append, List.length_nil]
  exact if_pos (by omega)
theorem implCopySet_ev (l : List S99) (h : l.length ≤ 5000000) : impl_copySet.f l = some l := by
  simp only [impl_copySet.f, List.nil_append, List.length_nil]
  exact if_pos (by omega)
theorem implCopyAlarm_ev (x : S29) (h : x.f0.length ≤ 5000000) : impl_copyAlarm.f x.f0 x.f1 x.f2 x.f3 = some (x.f0, x.f1, x.f2, x.f3) := by
  simp only [impl_copyAlarm.f, implCopySet_ev x.f0 h, Option.bind_some]
theorem rdnChainF (l : List S80) (i : Nat) : rd_T80 l (i : Int) = l.getD i z80 := by unfold rd_T80; simp
theorem place_lt {α : Type} (p : α → Bool) : ∀ (l : List α) (i : Nat), place p l i < (i : Int) + l.length ∨ place p l i = -1
  | [], i => .inr rfl
  | x :: l, i => by
    unfold place
    split
    · left; simp only [List.length_cons]; omega
    · rcases place_lt p l (i + 1) with h | h
      · left; simp only [List.length_cons]; omega
      · exact .inr h
def chainAt (l : List S80) (f : Int) : Int := place (fun c => decide (c.f0 = f)) l 0
theorem implChainOf_ev (p : S26) (f : Int) (h : p.f2.length ≤ 4000001) : Ev (fun k => impl_chainOf.f k p.f0 p.f1 p.f2 f) (chainAt p.f2 f) := by
  unfold impl_chainOf.f chainAt
  rw [← scan_place0 (fun c : S80 => decide (c.f0 = f)) z80 p.f2]
  refine scan_ev (F := fun k i => impl_chainOf.l0 k f p.f2 (p.f2.length : Int) i) (n := p.f2.length) (fun k => ?_) (fun i hi => ?_) p.f2.length 0 (by omega)
  · simp only [impl_chainOf.l0]; rw [if_neg (by omega)]
  · refine ⟨0, fun k _ => ?_⟩
    simp only [impl_chainOf.l0]
    rw [if_pos (by omega), if_pos (by omega), if_pos (by omega), rdnChainF, wrap_up i (by omega)]
    by_cases c : (p.f2.getD i z80).f0 = f
    · rw [if_pos c]; simp only [decide_eq_true c, if_true, goOn]
    · rw [if_neg c]; simp only [decide_eq_false c, Bool.false_eq_true, if_false, goOn]
theorem specL7At_ev (p : S26) (f : Int) (h : p.f2.length ≤ 4000001) : Ev (fun k => spec_l7At.f k p.f0 p.f1 p.f2 f) (chainAt p.f2 f) := by
  unfold spec_l7At.f chainAt
  rw [← scan_place0 (fun c : S80 => decide (c.f0 = f)) z80 p.f2]
  refine scan_ev (F := fun k i => spec_l7At.l0 k f i p.f0 p.f1 p.f2) (n := p.f2.length) (fun k => ?_) (fun i hi => ?_) p.f2.length 0 (by omega)
  · simp only [spec_l7At.l0]; rw [if_neg (by omega)]
  · refine ⟨0, fun k _ => ?_⟩
    simp only [spec_l7At.l0]
    rw [if_pos (by omega), if_pos (by omega), rdnChainF, wrap_up i (by omega)]
    by_cases c : (p.f2.getD i z80).f0 = f
    · rw [if_pos c]; simp only [decide_eq_true c, if_true, goOn]
    · rw [if_neg c]; simp only [decide_eq_false c, Bool.false_eq_true, if_false, goOn]
theorem implInChain_ev (c : S80) (s : List S99) (h : c.f1.length ≤ 4000000 ∧ ∀ y ∈ c.f1, WiAlarm y) : Ev (fun k => impl_InChain.f k c.f0 c.f1 s) (labelsAt c.f1 s) := by
  obtain ⟨K, g⟩ := implLabelsAt_ev c.f1 s h
  exact ⟨K, fun k hk => by simp only [impl_InChain.f, g k hk, Option.bind_some]⟩
theorem specInChain_ev (c : S80) (s : List S99) (h : c.f1.length ≤ 4000000 ∧ ∀ y ∈ c.f1, WiAlarm y) : Ev (fun k => spec_InChain.f k c.f0 c.f1 s) (labelsAt c.f1 s) := by
  have h1 := h.1
  unfold spec_InChain.f labelsAt
  rw [← scan_place0 (fun a : S29 => sameSet a.f0 s) z29 c.f1]
  refine scan_ev (F := fun k i => spec_InChain.l0 k s i c.f0 c.f1) (n := c.f1.length) (fun k => ?_) (fun i hi => ?_) c.f1.length 0 (by omega)
  · simp only [spec_InChain.l0]; rw [if_neg (by omega)]
  · have hw := (h.2 _ (getD_mem c.f1 i z29 hi)).1.1
    obtain ⟨K, g⟩ := specSameSet_ev (c.f1.getD i z29).f0 s (by omega)
    refine ⟨K, fun k hk => ?_⟩
    have e := g k hk
    simp only at e
    simp only [spec_InChain.l0]
    rw [if_pos (by omega), if_pos (by omega), rdnAlarm, e, Option.bind_some, wrap_up i (by omega)]
    cases sameSet (c.f1.getD i z29).f0 s <;> simp [goOn]
def findIn (p : S26) (s : List S99) : S29 × Bool :=
  let i := chainAt p.f2 (fingerOf s)
  if i < 0 then (z29, false) else
    let c := p.f2.getD i.toNat z80
    let k := labelsAt c.f1 s
    if k < 0 then (z29, false) else (c.f1.getD k.toNat z29, true)
theorem implFindIn_ev (p : S26) (s : List S99) (h : WiPart p) (hs : s.length ≤ 4000000 ∧ ∀ y ∈ s, WiLabel y) :
    Ev (fun k => impl_FindIn.f k p.f0 p.f1 p.f2 s) ((findIn p s).1.f0, (findIn p s).1.f1, (findIn p s).1.f2, (findIn p s).1.f3, (findIn p s).2) := by
  obtain ⟨K1, g1⟩ := implFinger_ev s hs
  obtain ⟨K2, g2⟩ := implChainOf_ev p (fingerOf s) (by have := h.2.2.1; omega)
  have hb := place_lt (fun c : S80 => decide (c.f0 = fingerOf s)) p.f2 0
  have hl := place_lo (fun c : S80 => decide (c.f0 = fingerOf s)) p.f2 0
  generalize hi : chainAt p.f2 (fingerOf s) = i at g2
  rw [show place (fun c : S80 => decide (c.f0 = fingerOf s)) p.f2 0 = i from hi] at hb hl
  by_cases c : i < 0
  · refine ⟨K1 + K2, fun k hk => ?_⟩
    have e1 := g1 k (by omega)
    have e2 := g2 k (by omega)
    simp only at e1 e2
    simp [impl_FindIn.f, e1, e2, c, findIn, hi, z29]
  · have hil : i.toNat < p.f2.length := by rcases hb with hb | hb <;> omega
    have hm := h.2.2.2 _ (getD_mem p.f2 i.toNat z80 hil)
    have hrd : rd_T80 p.f2 i = p.f2.getD i.toNat z80 := rfl
    generalize hc : p.f2.getD i.toNat z80 = ch at hm hrd
    obtain ⟨K3, g3⟩ := implInChain_ev ch s hm.2
    have hb2 := place_lt (fun a : S29 => sameSet a.f0 s) ch.f1 0
    have hl2 := place_lo (fun a : S29 => sameSet a.f0 s) ch.f1 0
    generalize hj : labelsAt ch.f1 s = j at g3
    rw [show place (fun a : S29 => sameSet a.f0 s) ch.f1 0 = j from hj] at hb2 hl2
    refine ⟨K1 + K2 + K3, fun k hk => ?_⟩
    have e1 := g1 k (by omega)
    have e2 := g2 k (by omega)
    have e3 := g3 k (by omega)
    simp only at e1 e2 e3
    by_cases c2 : j < 0
    · simp only [impl_FindIn.f, e1, e2, Option.bind_some, if_neg c, findIn, hi, hc]
      rw [if_pos (by omega), if_pos (by omega), hrd, e3, hj]
      simp only [Option.bind_some, if_pos c2]
      rfl
    · have hjl : j.toNat < ch.f1.length := by rcases hb2 with hb2 | hb2 <;> omega
      have hw := hm.2.2 _ (getD_mem ch.f1 j.toNat z29 hjl)
      have hrd2 : rd_T29 ch.f1 j = ch.f1.getD j.toNat z29 := rfl
      simp only [impl_FindIn.f, e1, e2, Option.bind_some, if_neg c, findIn, hi, hc]
      rw [if_pos (by omega), if_pos (by omega), hrd, e3, hj]
      simp only [Option.bind_some, if_neg c2]
      rw [if_pos (by omega), if_pos (by omega), hrd2, implCopyAlarm_ev _ (Nat.le_trans hw.1.1 (by decide))]
      rfl
theorem Wi_zAlarm' : WiAlarm z29 := ⟨⟨by simp [z29], fun y hy => by simp [z29] at hy⟩, trivial, trivial, by show (⟨#[]⟩ : ByteArray).size ≤ 4000000; decide⟩
theorem findIn_wi {p : S26} {s : List S99} (h : WiPart p) : WiAlarm (findIn p s).1 := by
  unfold findIn
  simp only []
  split
  · exact Wi_zAlarm'
  · split
    · exact Wi_zAlarm'
    · rename_i c c2
      have hb := place_lt (fun c : S80 => decide (c.f0 = fingerOf s)) p.f2 0
      have hb2 := place_lt (fun a : S29 => sameSet a.f0 s) (p.f2.getD (chainAt p.f2 (fingerOf s)).toNat z80).f1 0
      have e1 : chainAt p.f2 (fingerOf s) = place (fun c : S80 => decide (c.f0 = fingerOf s)) p.f2 0 := rfl
      have e2 : labelsAt (p.f2.getD (chainAt p.f2 (fingerOf s)).toNat z80).f1 s = place (fun a : S29 => sameSet a.f0 s) (p.f2.getD (chainAt p.f2 (fingerOf s)).toNat z80).f1 0 := rfl
      have hil : (chainAt p.f2 (fingerOf s)).toNat < p.f2.length := by rcases hb with hb | hb <;> omega
      have hm := h.2.2.2 _ (getD_mem p.f2 (chainAt p.f2 (fingerOf s)).toNat z80 hil)
      exact hm.2.2 _ (getD_mem _ _ z29 (by rcases hb2 with hb2 | hb2 <;> omega))
theorem rdmmChain (pre suf : List S80) (y : S80) : rd_T80 (pre ++ y :: suf) (pre.length : Int) = y := by unfold rd_T80; simp
theorem rdmmAlarm (pre suf : List S29) (y : S29) : rd_T29 (pre ++ y :: suf) (pre.length : Int) = y := by unfold rd_T29; simp
theorem specL4All_l0 : ∀ (suf pre : List S29), (pre ++ suf).length ≤ 5000000 → (∀ y ∈ suf, y.f0.length ≤ 5000000) → Ev (fun k => spec_l4All.l0 k (pre ++ suf) pre (pre.length : Int)) (pre ++ suf)
  | [], pre, h, hW => by
    refine Ev.step (f := fun _ => some (pre ++ [])) (fun k => ?_) (Ev.now _)
    simp only [spec_l4All.l0]
    rw [if_neg (not_lt_end pre), List.append_nil]
  | y :: suf, pre, h, hW => by
    have ih := specL4All_l0 suf (pre ++ [y]) (by simpa using h) (fun z hz => hW z (List.mem_cons_of_mem _ hz))
    have hp : pre.length < 5000000 := by simp at h; omega
    refine Ev.step (f := fun k => spec_l4All.l0 k ((pre ++ [y]) ++ suf) (pre ++ [y]) ((pre ++ [y]).length : Int)) (fun k => ?_) (by rw [mid_assoc pre suf y]; exact ih)
    simp only [spec_l4All.l0]
    rw [if_pos (lt_mid pre suf y)]
    simp only [nn, if_true, rdmmAlarm, specL4Copy_ev y (hW y List.mem_cons_self), Option.bind_some, wrap_up pre.length (by omega)]
    rw [if_pos (by omega)]
    congr 1
    · simp
    · simp
theorem specL4All_ev (l : List S29) (h : l.length ≤ 5000000) (hW : ∀ y ∈ l, y.f0.length ≤ 5000000) : Ev (fun k => spec_l4All.f k l) l :=
  Ev.congr (fun k => by unfold spec_l4All.f; rfl) (specL4All_l0 l [] (by simpa using h) hW)
theorem implCopyAlarms_l0 : ∀ (suf pre : List S29), (pre ++ suf).length ≤ 5000000 → (∀ y ∈ suf, y.f0.length ≤ 5000000) → Ev (fun k => impl_copyAlarms.l0 k pre (pre ++ suf) ((pre ++ suf).length : Int) (pre.length : Int)) (pre ++ suf)
  | [], pre, h, hW => by
    refine Ev.step (f := fun _ => some (pre ++ [])) (fun k => ?_) (Ev.now _)
    simp only [impl_copyAlarms.l0]
    rw [if_neg (by simp), List.append_nil]
  | y :: suf, pre, h, hW => by
    have ih := implCopyAlarms_l0 suf (pre ++ [y]) (by simpa using h) (fun z hz => hW z (List.mem_cons_of_mem _ hz))
    have hp : pre.length < 5000000 := by simp at h; omega
    refine Ev.step (f := fun k => impl_copyAlarms.l0 k (pre ++ [y]) ((pre ++ [y]) ++ suf) (((pre ++ [y]) ++ suf).length : Int) ((pre ++ [y]).length : Int)) (fun k => ?_) (by rw [mid_assoc pre suf y]; exact ih)
    simp only [impl_copyAlarms.l0]
    rw [if_pos (lt_mid pre suf y)]
    simp only [nn, if_true, rdmmAlarm, implCopyAlarm_ev y (hW y List.mem_cons_self), Option.bind_some, wrap_up pre.length (by omega)]
    rw [if_pos (lt_mid pre suf y), if_pos (by omega)]
    congr 1
    · simp
    · simp
    · simp
theorem implCopyAlarms_ev (l : List S29) (h : l.length ≤ 5000000) (hW : ∀ y ∈ l, y.f0.length ≤ 5000000) : Ev (fun k => impl_copyAlarms.f k l) l :=
  Ev.congr (fun k => by unfold impl_copyAlarms.f; rfl) (implCopyAlarms_l0 l [] (by simpa using h) hW)
def mergeA (a b : S29) : S29 := if a.f1 ≤ b.f2 then (if b.f1 ≤ a.f2 then ⟨b.f0, mn a.f1 b.f1, b.f2, b.f3⟩ else b) else b
theorem least_mn (x y : Int) : spec_Least.f x y = some (mn x y) := by unfold spec_Least.f mn; split <;> rfl
theorem implMerge_ev (a b : S29) (h : b.f0.length ≤ 5000000) : impl_Merge.f a.f0 a.f1 a.f2 a.f3 b.f0 b.f1 b.f2 b.f3 = some ((mergeA a b).f0, (mergeA a b).f1, (mergeA a b).f2, (mergeA a b).f3) := by
  simp only [impl_Merge.f, impl_Touch.f, implCopyAlarm_ev b h, Option.bind_some, mergeA]
  by_cases c : a.f1 ≤ b.f2
  · by_cases c2 : b.f1 ≤ a.f2
    · simp [c, c2]
    · simp [c, c2]
  · simp [c]
theorem specMerge_ev (a b : S29) (h : b.f0.length ≤ 5000000) : spec_Merge.f a.f0 a.f1 a.f2 a.f3 b.f0 b.f1 b.f2 b.f3 = some ((mergeA a b).f0, (mergeA a b).f1, (mergeA a b).f2, (mergeA a b).f3) := by
  simp only [spec_Merge.f, spec_Touch.f, specL4Copy_ev b h, Option.bind_some, mergeA, least_mn]
  by_cases c : a.f1 ≤ b.f2
  · by_cases c2 : b.f1 ≤ a.f2
    · simp [c, c2]
    · simp [c, c2]
  · simp [c]
theorem mergeA_f0 (a b : S29) : (mergeA a b).f0 = b.f0 := by unfold mergeA; split <;> (try split) <;> rfl
theorem mergeA_wi {a b : S29} (h : WiAlarm b) : WiAlarm (mergeA a b) := by
  unfold mergeA
  split
  · split
    · exact ⟨h.1, trivial, trivial, h.2.2.2⟩
    · exact h
  · exact h
theorem labelsAt_end (l : List S29) (s : List S99) (h : labelsAt l s ≥ 0) : labelsAt l s < (l.length : Int) := by
  have := place_lt (fun a : S29 => sameSet a.f0 s) l 0
  unfold labelsAt at *
  omega
theorem chainAt_end (l : List S80) (f : Int) (h : chainAt l f ≥ 0) : chainAt l f < (l.length : Int) := by
  have := place_lt (fun c : S80 => decide (c.f0 = f)) l 0
  unfold chainAt at *
  omega
/-- An alarm put into a chain: in place of the one of its labels, or behind all. -/
def putChain (c : S80) (a : S29) : S80 × Bool :=
  if labelsAt c.f1 a.f0 ≥ 0 then (⟨c.f0, c.f1.set (labelsAt c.f1 a.f0).toNat (mergeA (c.f1.getD (labelsAt c.f1 a.f0).toNat z29) a)⟩, false) else (⟨c.f0, c.f1 ++ [a]⟩, true)
theorem okC {l : List S29} (h : l.length ≤ 4000000 ∧ ∀ y ∈ l, WiAlarm y) : l.length ≤ 5000000 ∧ ∀ y ∈ l, y.f0.length ≤ 5000000 := ⟨by omega, fun y hy => Nat.le_trans (h.2 y hy).1.1 (by decide)⟩
theorem implPutChain_ev (c : S80) (a : S29) (h : WiChain c) (ha : WiAlarm a) : Ev (fun k => impl_PutChain.f k c.f0 c.f1 a.f0 a.f1 a.f2 a.f3) ((putChain c a).1.f0, (putChain c a).1.f1, (putChain c a).2) := by
  obtain ⟨K1, g1⟩ := implCopyAlarms_ev c.f1 (okC h.2).1 (okC h.2).2
  obtain ⟨K2, g2⟩ := implInChain_ev c a.f0 h.2
  have ho : a.f0.length ≤ 5000000 := Nat.le_trans ha.1.1 (by decide)
  have hlt := labelsAt_end c.f1 a.f0
  have hl := h.2.1
  refine ⟨K1 + K2, fun k hk => ?_⟩
  have e1 := g1 k (by omega)
  have e2 := g2 k (by omega)
  simp only at e1 e2
  simp only [impl_PutChain.f, impl_copyChain.f, e1, Option.bind_some, e2]
  unfold putChain
  by_cases c0 : labelsAt c.f1 a.f0 ≥ 0
  · rw [if_pos c0, if_pos c0, if_pos (hlt c0)]
    unfold rd_T29
    rw [implMerge_ev _ a ho]
    simp only [Option.bind_some]
    rw [if_pos (hlt c0), if_pos c0]
  · rw [if_neg c0, implCopyAlarm_ev a ho]
    simp only [Option.bind_some]
    rw [if_pos (by omega), if_neg c0]
theorem specPutChain_ev (c : S80) (a : S29) (h : WiChain c) (ha : WiAlarm a) : Ev (fun k => spec_PutChain.f k c.f0 c.f1 a.f0 a.f1 a.f2 a.f3) ((putChain c a).1.f0, (putChain c a).1.f1, (putChain c a).2) := by
  obtain ⟨K1, g1⟩ := specL4All_ev c.f1 (okC h.2).1 (okC h.2).2
  obtain ⟨K2, g2⟩ := specInChain_ev c a.f0 h.2
  have ho : a.f0.length ≤ 5000000 := Nat.le_trans ha.1.1 (by decide)
  have hlt := labelsAt_end c.f1 a.f0
  have hl := h.2.1
  refine ⟨K1 + K2, fun k hk => ?_⟩
  have e1 := g1 k (by omega)
  have e2 := g2 k (by omega)
  simp only at e1 e2
  simp only [spec_PutChain.f, spec_l6Copy.f, e1, Option.bind_some, e2]
  unfold putChain
  by_cases c0 : labelsAt c.f1 a.f0 ≥ 0
  · rw [if_neg (by omega), if_pos c0, if_pos (hlt c0)]
    unfold rd_T29
    rw [specMerge_ev _ a ho]
    simp only [Option.bind_some]
    rw [if_pos (hlt c0), if_pos c0]
  · rw [if_pos (by omega), specL4Copy_ev a ho]
    simp only [Option.bind_some]
    rw [if_pos (by omega), if_neg c0]
theorem implCopyPart_l0 (o0 o1 : Int) : ∀ (suf pre acc : List S80), (pre ++ suf).length ≤ 5000000 → acc.length = pre.length → (∀ y ∈ suf, WiChain y) →
    Ev (fun k => impl_copyPart.l0 k (pre ++ suf) ((pre ++ suf).length : Int) (pre.length : Int) o0 o1 acc) (o0, o1, acc ++ suf)
  | [], pre, acc, h, hl, hW => by
    refine Ev.step (f := fun _ => some (o0, o1, acc ++ ([] : List S80))) (fun k => ?_) (Ev.now _)
    simp only [impl_copyPart.l0]
    rw [if_neg (by simp)]
    simp
  | y :: suf, pre, acc, h, hl, hW => by
    obtain ⟨K, g⟩ := implCopyPart_l0 o0 o1 suf (pre ++ [y]) (acc ++ [y]) (by simpa using h) (by simp [hl]) (fun z hz => hW z (List.mem_cons_of_mem _ hz))
    obtain ⟨K2, g2⟩ := implCopyAlarms_ev y.f1 (okC (hW y List.mem_cons_self).2).1 (okC (hW y List.mem_cons_self).2).2
    have hp : pre.length < 5000000 := by simp at h; omega
    refine ⟨K + K2 + 1, fun k hk => ?_⟩
    obtain ⟨k, rfl⟩ : ∃ m, k = m + 1 := ⟨k - 1, by omega⟩
    have e := g k (by omega)
    have e2 := g2 k (by omega)
    simp only at e e2
    rw [← mid_assoc pre suf y] at e
    simp only [impl_copyPart.l0, impl_copyChain.f]
    rw [if_pos (lt_mid pre suf y)]
    simp only [nn, if_true, rdmmChain, wrap_up pre.length (by omega)]
    rw [if_pos (lt_mid pre suf y), e2]
    simp only [Option.bind_some]
    rw [if_pos (by omega), show ((pre.length + 1 : Nat) : Int) = ((pre ++ [y]).length : Int) by simp, e]
    simp
theorem implCopyPart_ev (p : S26) (h : WiPart p) : Ev (fun k => impl_copyPart.f k p.f0 p.f1 p.f2) (p.f0, p.f1, p.f2) :=
  Ev.congr (fun k => by unfold impl_copyPart.f; rfl) (by simpa using implCopyPart_l0 p.f0 p.f1 p.f2 [] [] (by have := h.2.2.1; simp; omega) rfl h.2.2.2)
theorem specCopyPart_l0 (q0 q1 o0 o1 : Int) : ∀ (suf pre acc : List S80), (pre ++ suf).length ≤ 5000000 → acc.length = pre.length → (∀ y ∈ suf, WiChain y) →
    Ev (fun k => spec_l7Copy.l0 k (pre.length : Int) q0 q1 (pre ++ suf) o0 o1 acc) (o0, o1, acc ++ suf)
  | [], pre, acc, h, hl, hW => by
    refine Ev.step (f := fun _ => some (o0, o1, acc ++ ([] : List S80))) (fun k => ?_) (Ev.now _)
    simp only [spec_l7Copy.l0]
    rw [if_neg (not_lt_end pre)]
    simp
  | y :: suf, pre, acc, h, hl, hW => by
    obtain ⟨K, g⟩ := specCopyPart_l0 q0 q1 o0 o1 suf (pre ++ [y]) (acc ++ [y]) (by simpa using h) (by simp [hl]) (fun z hz => hW z (List.mem_cons_of_mem _ hz))
    obtain ⟨K2, g2⟩ := specL4All_ev y.f1 (okC (hW y List.mem_cons_self).2).1 (okC (hW y List.mem_cons_self).2).2
    have hp : pre.length < 5000000 := by simp at h; omega
    refine ⟨K + K2 + 1, fun k hk => ?_⟩
    obtain ⟨k, rfl⟩ : ∃ m, k = m + 1 := ⟨k - 1, by omega⟩
    have e := g k (by omega)
    have e2 := g2 k (by omega)
    simp only at e e2
    rw [← mid_assoc pre suf y] at e
    simp only [spec_l7Copy.l0, spec_l6Copy.f]
    rw [if_pos (lt_mid pre suf y)]
    simp only [nn, if_true, rdmmChain, wrap_up pre.length (by omega)]
    rw [e2]
    simp only [Option.bind_some]
    rw [if_pos (by omega), show ((pre.length + 1 : Nat) : Int) = ((pre ++ [y]).length : Int) by simp, e]
    simp
theorem specCopyPart_ev (p : S26) (h : WiPart p) : Ev (fun k => spec_l7Copy.f k p.f0 p.f1 p.f2) (p.f0, p.f1, p.f2) :=
  Ev.congr (fun k => by unfold spec_l7Copy.f; rfl) (by simpa using specCopyPart_l0 p.f0 p.f1 p.f0 p.f1 p.f2 [] [] (by have := h.2.2.1; simp; omega) rfl h.2.2.2)
/-- How many stand ahead of the first one that a question denies. -/
def firstNot {α : Type} (p : α → Bool) : List α → Nat
  | [] => 0
  | x :: l => if p x = true then firstNot p l + 1 else 0
theorem firstNot_le {α : Type} (p : α → Bool) : ∀ l : List α, firstNot p l ≤ l.length
  | [] => Nat.le_refl _
  | x :: l => by have := firstNot_le p l; unfold firstNot; rw [List.length_cons]; split <;> omega
theorem firstNot_congr {α : Type} (p q : α → Bool) : ∀ l : List α, (∀ x ∈ l, p x = q x) → firstNot p l = firstNot q l
  | [], _ => rfl
  | x :: l, h => by unfold firstNot; rw [h x List.mem_cons_self, firstNot_congr p q l (fun y hy => h y (List.mem_cons_of_mem _ hy))]
def insC (l : List S80) (f : Int) (a : S29) (i : Nat) : List S80 := ((([] : List S80) ++ l.take i) ++ [⟨f, [a]⟩]) ++ l.drop i
theorem insC_length (l : List S80) (f : Int) (a : S29) (i : Nat) : (insC l f a i).length = l.length + 1 := by
  unfold insC; simp only [List.length_append, List.length_take, List.length_drop, List.length_singleton, List.length_nil]; omega
theorem insC_mem {l : List S80} {f : Int} {a : S29} {i : Nat} {y : S80} (h : y ∈ insC l f a i) : y ∈ l ∨ y = ⟨f, [a]⟩ := by
  unfold insC at h
  rcases List.mem_append.1 h with h | h
  · rcases List.mem_append.1 h with h | h
    · rcases List.mem_append.1 h with h | h
      · simp at h
      · exact .inl (List.mem_of_mem_take h)
    · exact .inr (List.mem_singleton.1 h)
  · exact .inl (List.mem_of_mem_drop h)
theorem specPut_j1 (f : Int) (a : S29) (q0 q1 : Int) (ql : List S80) (o0 o1 : Int) (ha : a.f0.length ≤ 5000000) (l : List S80) (i : Nat) (hi : i ≤ l.length) (hl : l.length ≤ 5000000) (k : Nat) :
    spec_PutIn.j1 (k + 1) f (i : Int) false q0 q1 ql a.f0 a.f1 a.f2 a.f3 o0 o1 l = some (o0, o1, insC l f a i, true) := by
  simp only [spec_PutIn.j1]
  rw [if_neg (by decide)]
  simp only [specL4Copy_ev a ha, Option.bind_some, nn, if_true, Int.toNat_natCast]
  rw [if_pos (by omega), if_pos (by simp only [List.length_append, List.length_take, List.length_nil]; omega), if_pos (by simp only [List.length_append, List.length_take, List.length_nil]; omega), if_pos (by simp only [List.length_append, List.length_take, List.length_drop, List.length_nil, List.length_singleton]; omega)]
  rfl
theorem specPut_l0 (f : Int) (a : S29) (q0 q1 : Int) (o0 o1 : Int) (ha : a.f0.length ≤ 5000000) : ∀ (suf pre : List S80), (pre ++ suf).length ≤ 5000000 →
    Ev (fun k => spec_PutIn.l0 k f (pre.length : Int) q0 q1 (pre ++ suf) a.f0 a.f1 a.f2 a.f3 o0 o1 (pre ++ suf)) (o0, o1, insC (pre ++ suf) f a (pre.length + firstNot (fun c : S80 => decide (c.f0 < f)) suf), true)
  | [], pre, h => by
    refine ⟨2, fun k hk => ?_⟩
    obtain ⟨k, rfl⟩ : ∃ m, k = m + 2 := ⟨k - 2, by omega⟩
    simp only [spec_PutIn.l0]
    rw [if_neg (not_lt_end pre)]
    exact specPut_j1 f a q0 q1 (pre ++ []) o0 o1 ha (pre ++ []) pre.length (by simp) h k
  | y :: suf, pre, h => by
    have hl : pre.length < 5000000 := by simp at h; omega
    by_cases c : y.f0 < f
    · obtain ⟨K, g⟩ := specPut_l0 f a q0 q1 o0 o1 ha suf (pre ++ [y]) (by simpa using h)
      refine ⟨K + 2, fun k hk => ?_⟩
      obtain ⟨k, rfl⟩ : ∃ m, k = m + 2 := ⟨k - 2, by omega⟩
      have e := g k (by omega)
      simp only at e
      rw [← mid_assoc pre suf y] at e
      simp only [spec_PutIn.l0]
      rw [if_pos (lt_mid pre suf y)]
      simp only [nn, if_true, rdmmChain]
      rw [decide_eq_true c]
      simp only [spec_PutIn.j1, if_true, wrap_up pre.length (by omega)]
      rw [show ((pre.length + 1 : Nat) : Int) = ((pre ++ [y]).length : Int) by simp, e]
      simp only [firstNot, decide_eq_true c, if_true, List.length_append, List.length_singleton]
      rw [show pre.length + 1 + firstNot (fun c : S80 => decide (c.f0 < f)) suf = pre.length + (firstNot (fun c : S80 => decide (c.f0 < f)) suf + 1) by omega]
    · refine ⟨2, fun k hk => ?_⟩
      obtain ⟨k, rfl⟩ : ∃ m, k = m + 2 := ⟨k - 2, by omega⟩
      simp only [spec_PutIn.l0]
      rw [if_pos (lt_mid pre suf y)]
      simp only [nn, if_true, rdmmChain]
      rw [decide_eq_false c, specPut_j1 f a q0 q1 (pre ++ y :: suf) o0 o1 ha (pre ++ y :: suf) pre.length (by simp) h k]
      simp only [firstNot, decide_eq_false c, Bool.false_eq_true, if_false, Nat.add_zero]
theorem implPut_j1 (f : Int) (a : S29) (o0 o1 : Int) (ha : a.f0.length ≤ 5000000) (l : List S80) (i : Nat) (hi : i ≤ l.length) (hl : l.length ≤ 5000000) (k : Nat) :
    impl_PutIn.j1 (k + 1) f (i : Int) false a.f0 a.f1 a.f2 a.f3 o0 o1 l = some (o0, o1, insC l f a i, true) := by
  simp only [impl_PutIn.j1]
  rw [if_neg (by decide)]
  simp only [implCopyAlarm_ev a ha, Option.bind_some, nn, if_true, Int.toNat_natCast]
  rw [if_pos (by omega), if_pos (by simp only [List.length_append, List.length_take, List.length_nil]; omega), if_pos (by simp only [List.length_append, List.length_take, List.length_nil]; omega), if_pos (by simp only [List.length_append, List.length_take, List.length_drop, List.length_nil, List.length_singleton]; omega)]
  rfl
theorem implPut_l0 (f : Int) (a : S29) (o0 o1 : Int) (ha : a.f0.length ≤ 5000000) : ∀ (suf pre : List S80), (pre ++ suf).length ≤ 5000000 →
    Ev (fun k => impl_PutIn.l0 k f (pre.length : Int) a.f0 a.f1 a.f2 a.f3 o0 o1 (pre ++ suf)) (o0, o1, insC (pre ++ suf) f a (pre.length + firstNot (fun c : S80 => decide (c.f0 ≤ f)) suf), true)
  | [], pre, h => by
    refine ⟨2, fun k hk => ?_⟩
    obtain ⟨k, rfl⟩ : ∃ m, k = m + 2 := ⟨k - 2, by omega⟩
    simp only [impl_PutIn.l0]
    rw [if_neg (not_lt_end pre)]
    exact implPut_j1 f a  o0 o1 ha (pre ++ []) pre.length (by simp) h k
  | y :: suf, pre, h => by
    have hl : pre.length < 5000000 := by simp at h; omega
    by_cases c : y.f0 ≤ f
    · obtain ⟨K, g⟩ := implPut_l0 f a o0 o1 ha suf (pre ++ [y]) (by simpa using h)
      refine ⟨K + 2, fun k hk => ?_⟩
      obtain ⟨k, rfl⟩ : ∃ m, k = m + 2 := ⟨k - 2, by omega⟩
      have e := g k (by omega)
      simp only at e
      rw [← mid_assoc pre suf y] at e
      simp only [impl_PutIn.l0]
      rw [if_pos (lt_mid pre suf y)]
      simp only [nn, if_true, rdmmChain]
      rw [decide_eq_true c]
      simp only [impl_PutIn.j1, if_true, wrap_up pre.length (by omega)]
      rw [show ((pre.length + 1 : Nat) : Int) = ((pre ++ [y]).length : Int) by simp, e]
      simp only [firstNot, decide_eq_true c, if_true, List.length_append, List.length_singleton]
      rw [show pre.length + 1 + firstNot (fun c : S80 => decide (c.f0 ≤ f)) suf = pre.length + (firstNot (fun c : S80 => decide (c.f0 ≤ f)) suf + 1) by omega]
    · refine ⟨2, fun k hk => ?_⟩
      obtain ⟨k, rfl⟩ : ∃ m, k = m + 2 := ⟨k - 2, by omega⟩
      simp only [impl_PutIn.l0]
      rw [if_pos (lt_mid pre suf y)]
      simp only [nn, if_true, rdmmChain]
      rw [decide_eq_false c, implPut_j1 f a  o0 o1 ha (pre ++ y :: suf) pre.length (by simp) h k]
      simp only [firstNot, decide_eq_false c, Bool.false_eq_true, if_false, Nat.add_zero]
def putIn (p : S26) (a : S29) : S26 × Bool :=
  if chainAt p.f2 (fingerOf a.f0) ≥ 0 then (⟨p.f0, wrap64 (p.f1 + 1), p.f2.set (chainAt p.f2 (fingerOf a.f0)).toNat (putChain (p.f2.getD (chainAt p.f2 (fingerOf a.f0)).toNat z80) a).1⟩, (putChain (p.f2.getD (chainAt p.f2 (fingerOf a.f0)).toNat z80) a).2)
  else (⟨p.f0, wrap64 (p.f1 + 1), insC p.f2 (fingerOf a.f0) a (firstNot (fun c : S80 => decide (c.f0 < fingerOf a.f0)) p.f2)⟩, true)
theorem getD_wi {l : List S80} (h : ∀ y ∈ l, WiChain y) {i : Int} (h0 : 0 ≤ i) (h1 : i < (l.length : Int)) : WiChain (l.getD i.toNat z80) := h _ (getD_mem l i.toNat z80 (by omega))
theorem implPutIn_ev (p : S26) (a : S29) (h : WiPart p) (ha : WiAlarm a) : Ev (fun k => impl_PutIn.f k p.f0 p.f1 p.f2 a.f0 a.f1 a.f2 a.f3) ((putIn p a).1.f0, (putIn p a).1.f1, (putIn p a).1.f2, (putIn p a).2) := by
  have hl := h.2.2.1
  have ho : a.f0.length ≤ 5000000 := Nat.le_trans ha.1.1 (by decide)
  have hlt := chainAt_end p.f2 (fingerOf a.f0)
  obtain ⟨K1, g1⟩ := implCopyPart_ev p h
  obtain ⟨K2, g2⟩ := implFinger_ev a.f0 ha.1
  obtain ⟨K3, g3⟩ := implChainOf_ev p (fingerOf a.f0) (by omega)
  obtain ⟨K5, g5⟩ := implPut_l0 (fingerOf a.f0) a p.f0 (wrap64 (p.f1 + 1)) ho p.f2 [] (by simp; omega)
  by_cases c : chainAt p.f2 (fingerOf a.f0) ≥ 0
  · obtain ⟨K4, g4⟩ := implPutChain_ev (p.f2.getD (chainAt p.f2 (fingerOf a.f0)).toNat z80) a (getD_wi h.2.2.2 c (hlt c)) ha
    refine ⟨K1 + K2 + K3 + K4, fun k hk => ?_⟩
    have e1 := g1 k (by omega)
    have e2 := g2 k (by omega)
    have e3 := g3 k (by omega)
    have e4 := g4 k (by omega)
    simp only at e1 e2 e3 e4
    simp only [impl_PutIn.f, e1, Option.bind_some, e2, e3]
    rw [if_pos c, if_pos c, if_pos (hlt c)]
    unfold rd_T80
    rw [e4]
    simp only [Option.bind_some]
    rw [if_pos (hlt c)]
    unfold putIn
    rw [if_pos c]
  · refine ⟨K1 + K2 + K3 + K5, fun k hk => ?_⟩
    have e1 := g1 k (by omega)
    have e2 := g2 k (by omega)
    have e3 := g3 k (by omega)
    have e5 := g5 k (by omega)
    simp only [List.nil_append, List.length_nil] at e1 e2 e3 e5
    simp only [impl_PutIn.f, e1, Option.bind_some, e2, e3]
    rw [if_neg c]
    have hn : ∀ y ∈ p.f2, y.f0 ≠ fingerOf a.f0 := by
      intro y hy he
      refine c ((place_ge (fun c : S80 => decide (c.f0 = fingerOf a.f0)) p.f2 0).2 ?_)
      exact List.any_eq_true.2 ⟨y, hy, decide_eq_true he⟩
    have hc : firstNot (fun c : S80 => decide (c.f0 ≤ fingerOf a.f0)) p.f2 = firstNot (fun c : S80 => decide (c.f0 < fingerOf a.f0)) p.f2 :=
      firstNot_congr _ _ p.f2 (fun y hy => decide_eq_decide.2 ⟨fun h9 => by have := hn y hy; omega, fun h9 => by omega⟩)
    unfold putIn
    rw [if_neg c, ← hc]
    simpa using e5
theorem specPutIn_ev (p : S26) (a : S29) (h : WiPart p) (ha : WiAlarm a) : Ev (fun k => spec_PutIn.f k p.f0 p.f1 p.f2 a.f0 a.f1 a.f2 a.f3) ((putIn p a).1.f0, (putIn p a).1.f1, (putIn p a).1.f2, (putIn p a).2) := by
  have hl := h.2.2.1
  have ho : a.f0.length ≤ 5000000 := Nat.le_trans ha.1.1 (by decide)
  have hlt := chainAt_end p.f2 (fingerOf a.f0)
  obtain ⟨K1, g1⟩ := specCopyPart_ev p h
  obtain ⟨K2, g2⟩ := specFinger_ev a.f0 ha.1
  obtain ⟨K3, g3⟩ := specL7At_ev p (fingerOf a.f0) (by omega)
  obtain ⟨K5, g5⟩ := specPut_l0 (fingerOf a.f0) a p.f0 p.f1 p.f0 (wrap64 (p.f1 + 1)) ho p.f2 [] (by simp; omega)
  by_cases c : chainAt p.f2 (fingerOf a.f0) ≥ 0
  · obtain ⟨K4, g4⟩ := specPutChain_ev (p.f2.getD (chainAt p.f2 (fingerOf a.f0)).toNat z80) a (getD_wi h.2.2.2 c (hlt c)) ha
    refine ⟨K1 + K2 + K3 + K4, fun k hk => ?_⟩
    have e1 := g1 k (by omega)
    have e2 := g2 k (by omega)
    have e3 := g3 k (by omega)
    have e4 := g4 k (by omega)
    simp only at e1 e2 e3 e4
    simp only [spec_PutIn.f, e1, Option.bind_some, e2, e3]
    rw [if_pos c, if_pos c, if_pos (hlt c)]
    unfold rd_T80
    rw [e4]
    simp only [Option.bind_some]
    rw [if_pos (hlt c)]
    unfold putIn
    rw [if_pos c]
  · refine ⟨K1 + K2 + K3 + K5, fun k hk => ?_⟩
    have e1 := g1 k (by omega)
    have e2 := g2 k (by omega)
    have e3 := g3 k (by omega)
    have e5 := g5 k (by omega)
    simp only [List.nil_append, List.length_nil] at e1 e2 e3 e5
    simp only [spec_PutIn.f, e1, Option.bind_some, e2, e3]
    rw [if_neg c]
    unfold putIn
    rw [if_neg c]
    simpa using e5
theorem rdnChain' (l : List S80) (i : Nat) : rd_T80 l (i : Int) = l.getD i z80 := by unfold rd_T80; simp
theorem rdnPart' (l : List S26) (i : Nat) : rd_T26 l (i : Int) = l.getD i z26 := by unfold rd_T26; simp
/-- Each of the places from i on. -/
def bstep (p : Nat → Bool) (i : Nat) : Option Bool := if p i = true then none else some false
def bscan (p : Nat → Bool) (d i : Nat) : Bool := scan (bstep p) true d i
theorem bstep_false (p : Nat → Bool) (i : Nat) (r : Bool) (h : bstep p i = some r) : r = false := by
  unfold bstep at h
  split at h
  · cases h
  · injection h with h; exact h.symm
theorem bscan_succ (p : Nat → Bool) (d i : Nat) : bscan p (d + 1) i = (p i && bscan p d (i + 1)) := by
  unfold bscan
  rw [scan]
  cases hp : p i <;> simp [bstep, hp]
def earlyA (l : List S29) (i : Nat) : Bool := (l.take i).any (fun a => sameSet a.f0 (l.getD i z29).f0)
def cBit (f : Int) (l : List S29) (i : Nat) : Bool := alarmOk (l.getD i z29) && decide (fingerOf (l.getD i z29).f0 = f)
def chainOk (f : Int) (l : List S29) : Bool := (decide ((l.length : Int) > 0) && bscan (fun i => !earlyA l i) l.length 0) && bscan (cBit f l) l.length 0
theorem implLabelsApart_ev (l : List S29) (h : l.length ≤ 4000000 ∧ ∀ y ∈ l, WiAlarm y) : Ev (fun k => impl_labelsApart.f k l) (bscan (fun i => !earlyA l i) l.length 0) := by
  have h1 := h.1
  unfold impl_labelsApart.f bscan
  refine scan_ev (F := fun k i => impl_labelsApart.l0 k l l (l.length : Int) i) (n := l.length) (fun k => ?_) (fun i hi => ?_) l.length 0 (by omega)
  · simp only [impl_labelsApart.l0]; rw [if_neg (by omega)]
  · obtain ⟨K, g⟩ := implLabelsAt_ev (l.take i) (l.getD i z29).f0 ⟨by rw [List.length_take]; omega, fun y hy => h.2 y (List.mem_of_mem_take hy)⟩
    refine ⟨K, fun k hk => ?_⟩
    have e := g k hk
    simp only at e
    simp only [impl_labelsApart.l0]
    rw [if_pos (by omega), if_pos (by omega), if_pos (by omega), if_pos (by omega), rdnAlarm, Int.toNat_natCast, e, Option.bind_some, wrap_up i (by omega)]
    have hp : labelsAt (l.take i) (l.getD i z29).f0 ≥ 0 ↔ earlyA l i = true := by
      unfold earlyA labelsAt
      exact place_ge _ _ 0
    rcases Bool.eq_false_or_eq_true (earlyA l i) with he | he
    · rw [if_pos (hp.2 he), show bstep (fun i => !earlyA l i) i = some false from by simp [bstep, he]]; rfl
    · rw [if_neg (fun q => by rw [hp.1 q] at he; cases he), show bstep (fun i => !earlyA l i) i = none from by simp [bstep, he]]; rfl
theorem implChainOk_ev (f : Int) (l : List S29) (h : l.length ≤ 4000000 ∧ ∀ y ∈ l, WiAlarm y) : Ev (fun k => impl_ChainOk.f k f l) (chainOk f l) := by
  have h1 := h.1
  unfold impl_ChainOk.f chainOk
  obtain ⟨K0, g0⟩ := implLabelsApart_ev l h
  rw [show bscan (cBit f l) l.length 0 = scan (bstep (cBit f l)) true l.length 0 from rfl, ← scan_end (bstep_false (cBit f l))]
  refine scan_ev2 (F := fun k i => impl_ChainOk.l0 k l (l.length : Int) i f l) (n := l.length) ⟨K0, fun k hk => ?_⟩ (fun i hi => ?_) l.length 0 (by omega)
  · have e := g0 k hk
    simp only at e
    simp only [impl_ChainOk.l0, e, Option.bind_some]
    rw [if_neg (by omega)]
    by_cases hc : (l.length : Int) > 0
    · rw [if_pos hc, decide_eq_true hc]; simp
    · rw [if_neg hc, decide_eq_false hc]; simp
  · have hy := h.2 _ (getD_mem l i z29 hi)
    obtain ⟨K1, g1⟩ := implAlarmOk_ev (l.getD i z29) hy
    obtain ⟨K2, g2⟩ := implFinger_ev (l.getD i z29).f0 hy.1
    refine ⟨K1 + K2, fun k hk => ?_⟩
    have e1 := g1 k (by omega)
    have e2 := g2 k (by omega)
    simp only at e1 e2
    simp only [impl_ChainOk.l0]
    rw [if_pos (by omega), if_pos (by omega), if_pos (by omega), rdnAlarm, e1, Option.bind_some, e2, Option.bind_some, wrap_up i (by omega)]
    unfold bstep cBit
    cases alarmOk (l.getD i z29) with
    | false => simp [goOn]
    | true =>
      by_cases hc : fingerOf (l.getD i z29).f0 = f
      · rw [if_pos rfl, if_pos hc, decide_eq_true hc]; simp [goOn]
      · rw [if_pos rfl, if_neg hc, decide_eq_false hc]; simp [goOn]
/-- A part. -/
def pBit (l : List S80) (i n : Int) (k : Nat) : Bool := chainOk (l.getD k z80).f0 (l.getD k z80).f1 && (decide (partOf (l.getD k z80).f0 n = i) && (decide (k = 0) || decide ((l.getD (k - 1) z80).f0 < (l.getD k z80).f0)))
def partIs (p : S26) (i n : Int) : Bool := ((decide (-1 ≤ p.f0) && decide (p.f0 ≤ 4)) && decide (p.f1 ≥ 0)) && bscan (pBit p.f2 i n) p.f2.length 0
theorem implPartOk_ev (p : S26) (i n : Int) (h : WiPart p) : Ev (fun k => impl_PartOk.f k p.f0 p.f1 p.f2 i n) (partIs p i n) := by
  have h1 := h.2.2.1
  have h2 := h.2.2.2
  unfold impl_PartOk.f partIs
  rw [show bscan (pBit p.f2 i n) p.f2.length 0 = scan (bstep (pBit p.f2 i n)) true p.f2.length 0 from rfl, ← scan_end (bstep_false (pBit p.f2 i n))]
  refine scan_ev2 (F := fun k j => impl_PartOk.l0 k i n p.f2 (p.f2.length : Int) j p.f0 p.f1 p.f2) (n := p.f2.length) ⟨0, fun k hk => ?_⟩ (fun j hj => ?_) p.f2.length 0 (by omega)
  · simp only [impl_PartOk.l0, inEq, Option.bind_some]
    rw [if_neg (by omega)]
    cases (decide (-1 ≤ p.f0) && decide (p.f0 ≤ 4)) <;> simp
  · have hy := h2 _ (getD_mem p.f2 j z80 hj)
    obtain ⟨K1, g1⟩ := implChainOk_ev (p.f2.getD j z80).f0 (p.f2.getD j z80).f1 hy.2
    refine ⟨K1, fun k hk => ?_⟩
    have e1 := g1 k (by omega)
    simp only at e1
    simp only [impl_PartOk.l0]
    rw [if_pos (by omega), if_pos (by omega), if_pos (by omega), rdnChain', e1, Option.bind_some, implPartOf_is, Option.bind_some, wrap_up j (by omega)]
    unfold bstep pBit
    cases chainOk (p.f2.getD j z80).f0 (p.f2.getD j z80).f1 with
    | false => simp [goOn]
    | true =>
      by_cases hc : partOf (p.f2.getD j z80).f0 n = i
      · rw [if_pos rfl, if_pos hc, decide_eq_true hc]
        by_cases h0 : j = 0
        · subst h0; simp [goOn]
        · rw [if_pos (by omega), sub1 j (by omega) (by omega), if_pos (by omega), if_pos (by omega), rdnChain', decide_eq_false h0]
          by_cases hd : (p.f2.getD (j - 1) z80).f0 ≥ (p.f2.getD j z80).f0
          · rw [if_pos hd, decide_eq_false (show ¬ (p.f2.getD (j - 1) z80).f0 < (p.f2.getD j z80).f0 by omega)]; simp [goOn]
          · rw [if_neg hd, decide_eq_true (show (p.f2.getD (j - 1) z80).f0 < (p.f2.getD j z80).f0 by omega)]; simp [goOn]
      · rw [if_pos rfl, if_neg hc, decide_eq_false hc]; simp [goOn]
/-- A store. -/
def sBit (l : List S26) (i : Nat) : Bool := partIs (l.getD i z26) (i : Int) (l.length : Int)
def storeIs (l : List S26) : Bool := (decide (1 ≤ (l.length : Int)) && decide ((l.length : Int) ≤ 3)) && bscan (sBit l) l.length 0
theorem implStoreOk_ev (l : List S26) (h : l.length ≤ 4000000 ∧ ∀ y ∈ l, WiPart y) : Ev (fun k => impl_StoreOk.f k l) (storeIs l) := by
  have h1 := h.1
  unfold impl_StoreOk.f storeIs
  simp only [inEq, Option.bind_some]
  cases (decide (1 ≤ (l.length : Int)) && decide ((l.length : Int) ≤ 3)) with
  | false => simp only [Bool.false_eq_true, if_false, Bool.false_and]; exact Ev.now _
  | true =>
    simp only [if_true, Bool.true_and]
    unfold bscan
    refine scan_ev (F := fun k i => impl_StoreOk.l0 k l l (l.length : Int) i) (n := l.length) (fun k => ?_) (fun i hi => ?_) l.length 0 (by omega)
    · simp only [impl_StoreOk.l0]; rw [if_neg (by omega)]
    · obtain ⟨K, g⟩ := implPartOk_ev (l.getD i z26) (i : Int) (l.length : Int) (h.2 _ (getD_mem l i z26 hi))
      refine ⟨K, fun k hk => ?_⟩
      have e := g k hk
      simp only at e
      simp only [impl_StoreOk.l0]
      rw [if_pos (by omega), if_pos (by omega), if_pos (by omega), rdnPart', e, Option.bind_some, wrap_up i (by omega)]
      unfold bstep sBit
      cases partIs (l.getD i z26) (i : Int) (l.length : Int) <;> simp [goOn]
def alm (x : S29) : List (List UInt8 × List UInt8) × Int × Int × List UInt8 := (x.f0.map lab, x.f1, x.f2, x.f3.toList)
def sameAlarm (a b : S29) : Bool := decide (alm a = alm b)
theorem sameAlarm_eq (x y : S29) : sameAlarm x y = (sameSet x.f0 y.f0 && (decide (x.f1 = y.f1) && (decide (x.f2 = y.f2) && (x.f3.toList == y.f3.toList)))) := by
  unfold sameAlarm sameSet alm
  simp only [Prod.mk.injEq]
  rw [Bool.eq_iff_iff]
  simp
theorem implSameAlarm_ev (x y : S29) (h : x.f0.length < 4611686018427387904) : Ev (fun k => impl_SameAlarm.f k x.f0 x.f1 x.f2 x.f3 y.f0 y.f1 y.f2 y.f3) (sameAlarm x y) := by
  obtain ⟨K, hK⟩ := implSameSet_ev x.f0 y.f0 h
  refine ⟨K, fun k hk => ?_⟩
  have h2 := hK k hk
  simp only at h2
  rw [sameAlarm_eq]
  simp only [impl_SameAlarm.f, h2, Option.bind_some]
  cases sameSet x.f0 y.f0 <;> by_cases h3 : x.f1 = y.f1 <;> by_cases h4 : x.f2 = y.f2 <;> simp [h3, h4]
def homeOf (l : List S26) (s : List S99) : Int := partOf (fingerOf s) (l.length : Int)
theorem implHomeOf_ev (l : List S26) (s : List S99) (h : s.length ≤ 4000000 ∧ ∀ y ∈ s, WiLabel y) : Ev (fun k => impl_HomeOf.f k l s) (homeOf l s) := by
  obtain ⟨K, g⟩ := implFinger_ev s h
  refine ⟨K, fun k hk => ?_⟩
  have e := g k hk
  simp only at e
  simp [impl_HomeOf.f, e, implPartOf_is, homeOf]
theorem specHomeOf_ev (l : List S26) (s : List S99) (h : s.length ≤ 4000000 ∧ ∀ y ∈ s, WiLabel y) : Ev (fun k => spec_HomeOf.f k l s) (homeOf l s) := by
  obtain ⟨K, g⟩ := specFinger_ev s h
  refine ⟨K, fun k hk => ?_⟩
  have e := g k hk
  simp only at e
  simp [spec_HomeOf.f, e, specPartOf_is, homeOf]
theorem partOf_range (a : Int) (n : Nat) (h : 0 < n) : 0 ≤ partOf a n ∧ partOf a n < n := by
  unfold partOf
  rw [if_neg (by omega)]
  split
  · omega
  · rw [Int.tmod_eq_emod_of_nonneg (by omega)]; exact ⟨Int.emod_nonneg _ (by omega), Int.emod_lt_of_pos _ (by omega)⟩
def findAlarm (l : List S26) (s : List S99) : S29 × Bool := if (l.length : Int) = 0 then (z29, false) else findIn (l.getD (homeOf l s).toNat z26) s
theorem implFindAlarm_ev (l : List S26) (s : List S99) (h : l.length ≤ 4000000 ∧ ∀ y ∈ l, WiPart y) (hs : s.length ≤ 4000000 ∧ ∀ y ∈ s, WiLabel y) :
    Ev (fun k => impl_FindAlarm.f k l s) ((findAlarm l s).1.f0, (findAlarm l s).1.f1, (findAlarm l s).1.f2, (findAlarm l s).1.f3, (findAlarm l s).2) := by
  by_cases c : (l.length : Int) = 0
  · exact ⟨0, fun k _ => by simp only [impl_FindAlarm.f, if_pos c, findAlarm]; rfl⟩
  · obtain ⟨K1, g1⟩ := implHomeOf_ev l s hs
    have hr := partOf_range (fingerOf s) l.length (by omega)
    have e : homeOf l s = partOf (fingerOf s) l.length := rfl
    have hm := h.2 _ (getD_mem l (homeOf l s).toNat z26 (by omega))
    obtain ⟨K2, g2⟩ := implFindIn_ev _ s hm hs
    refine ⟨K1 + K2, fun k hk => ?_⟩
    have e1 := g1 k (by omega)
    have e2 := g2 k (by omega)
    have hrd : rd_T26 l (homeOf l s) = l.getD (homeOf l s).toNat z26 := rfl
    simp only at e1 e2
    simp only [impl_FindAlarm.f, if_neg c, e1, Option.bind_some, findAlarm]
    rw [if_pos (by omega), if_pos (by omega), hrd, e2]
    rfl
theorem findAlarm_wi {l : List S26} {s : List S99} (h : l.length ≤ 4000000 ∧ ∀ y ∈ l, WiPart y) : WiAlarm (findAlarm l s).1 := by
  unfold findAlarm
  split
  · exact Wi_zAlarm'
  · rename_i c
    have hr := partOf_range (fingerOf s) l.length (by omega)
    have e : homeOf l s = partOf (fingerOf s) l.length := rfl
    exact findIn_wi (h.2 _ (getD_mem l (homeOf l s).toNat z26 (by omega)))
theorem rdmmPart (pre suf : List S26) (y : S26) : rd_T26 (pre ++ y :: suf) (pre.length : Int) = y := by unfold rd_T26; simp
theorem implCopyStore_l0 : ∀ (suf pre acc : List S26), (pre ++ suf).length ≤ 5000000 → acc.length = pre.length → (∀ y ∈ suf, WiPart y) →
    Ev (fun k => impl_copyStore.l0 k acc (pre ++ suf) ((pre ++ suf).length : Int) (pre.length : Int)) (acc ++ suf)
  | [], pre, acc, h, hl, hW => by
    refine Ev.step (f := fun _ => some (acc ++ ([] : List S26))) (fun k => ?_) (Ev.now _)
    simp only [impl_copyStore.l0]
    rw [if_neg (by simp)]
    simp
  | y :: suf, pre, acc, h, hl, hW => by
    obtain ⟨K, g⟩ := implCopyStore_l0 suf (pre ++ [y]) (acc ++ [y]) (by simpa using h) (by simp [hl]) (fun z hz => hW z (List.mem_cons_of_mem _ hz))
    obtain ⟨K2, g2⟩ := implCopyPart_ev y (hW y List.mem_cons_self)
    have hp : pre.length < 5000000 := by simp at h; omega
    refine ⟨K + K2 + 1, fun k hk => ?_⟩
    obtain ⟨k, rfl⟩ : ∃ m, k = m + 1 := ⟨k - 1, by omega⟩
    have e := g k (by omega)
    have e2 := g2 k (by omega)
    simp only at e e2
    rw [← mid_assoc pre suf y] at e
    simp only [impl_copyStore.l0]
    rw [if_pos (lt_mid pre suf y)]
    simp only [nn, if_true, rdmmPart, wrap_up pre.length (by omega)]
    rw [if_pos (lt_mid pre suf y), e2]
    simp only [Option.bind_some]
    rw [if_pos (by omega), show ((pre.length + 1 : Nat) : Int) = ((pre ++ [y]).length : Int) by simp, e]
    simp
theorem implCopyStore_ev (l : List S26) (h : l.length ≤ 4000000 ∧ ∀ y ∈ l, WiPart y) : Ev (fun k => impl_copyStore.f k l) l :=
  Ev.congr (fun k => by unfold impl_copyStore.f; rfl) (by simpa using implCopyStore_l0 l [] [] (by have := h.1; simp; omega) rfl h.2)
theorem specCopyStore_l0 : ∀ (suf pre acc : List S26), (pre ++ suf).length ≤ 5000000 → acc.length = pre.length → (∀ y ∈ suf, WiPart y) →
    Ev (fun k => spec_l8Copy.l0 k (pre ++ suf) acc (pre.length : Int)) (acc ++ suf)
  | [], pre, acc, h, hl, hW => by
    refine Ev.step (f := fun _ => some (acc ++ ([] : List S26))) (fun k => ?_) (Ev.now _)
    simp only [spec_l8Copy.l0]
    rw [if_neg (not_lt_end pre)]
    simp
  | y :: suf, pre, acc, h, hl, hW => by
    obtain ⟨K, g⟩ := specCopyStore_l0 suf (pre ++ [y]) (acc ++ [y]) (by simpa using h) (by simp [hl]) (fun z hz => hW z (List.mem_cons_of_mem _ hz))
    obtain ⟨K2, g2⟩ := specCopyPart_ev y (hW y List.mem_cons_self)
    have hp : pre.length < 5000000 := by simp at h; omega
    refine ⟨K + K2 + 1, fun k hk => ?_⟩
    obtain ⟨k, rfl⟩ : ∃ m, k = m + 1 := ⟨k - 1, by omega⟩
    have e := g k (by omega)
    have e2 := g2 k (by omega)
    simp only at e e2
    rw [← mid_assoc pre suf y] at e
    simp only [spec_l8Copy.l0]
    rw [if_pos (lt_mid pre suf y)]
    simp only [nn, if_true, rdmmPart, wrap_up pre.length (by omega)]
    rw [e2]
    simp only [Option.bind_some]
    rw [if_pos (by omega), show ((pre.length + 1 : Nat) : Int) = ((pre ++ [y]).length : Int) by simp, e]
    simp
theorem specCopyStore_ev (l : List S26) (h : l.length ≤ 4000000 ∧ ∀ y ∈ l, WiPart y) : Ev (fun k => spec_l8Copy.f k l) l :=
  Ev.congr (fun k => by unfold spec_l8Copy.f; rfl) (by simpa using specCopyStore_l0 l [] [] (by have := h.1; simp; omega) rfl h.2)
def putAlarm (l : List S26) (a : S29) : List S26 × Bool :=
  if (l.length : Int) = 0 then (l, false) else (l.set (homeOf l a.f0).toNat (putIn (l.getD (homeOf l a.f0).toNat z26) a).1, (putIn (l.getD (homeOf l a.f0).toNat z26) a).2)
theorem homeOf_range (l : List S26) (s : List S99) (c : ¬ (l.length : Int) = 0) : 0 ≤ homeOf l s ∧ homeOf l s < (l.length : Int) := partOf_range _ l.length (by omega)
theorem implPutAlarm_ev (l : List S26) (a : S29) (h : l.length ≤ 4000000 ∧ ∀ y ∈ l, WiPart y) (ha : WiAlarm a) : Ev (fun k => impl_PutAlarm.f k l a.f0 a.f1 a.f2 a.f3) (putAlarm l a) := by
  obtain ⟨K1, g1⟩ := implCopyStore_ev l h
  by_cases c : (l.length : Int) = 0
  · refine ⟨K1, fun k hk => ?_⟩
    have e1 := g1 k (by omega)
    simp only at e1
    simp only [impl_PutAlarm.f, e1, Option.bind_some]
    unfold putAlarm
    rw [if_pos c, if_pos c]
  · obtain ⟨r0, r1⟩ := homeOf_range l a.f0 c
    obtain ⟨K2, g2⟩ := implHomeOf_ev l a.f0 ha.1
    obtain ⟨K3, g3⟩ := implPutIn_ev (l.getD (homeOf l a.f0).toNat z26) a (h.2 _ (getD_mem l _ z26 (by omega))) ha
    refine ⟨K1 + K2 + K3, fun k hk => ?_⟩
    have e1 := g1 k (by omega)
    have e2 := g2 k (by omega)
    have e3 := g3 k (by omega)
    simp only at e1 e2 e3
    simp only [impl_PutAlarm.f, e1, e2, Option.bind_some]
    rw [if_neg c, if_pos r0, if_pos r1]
    unfold rd_T26
    rw [e3]
    simp only [Option.bind_some]
    rw [if_pos r1]
    unfold putAlarm
    rw [if_neg c]
theorem specPutAlarm_ev (l : List S26) (a : S29) (h : l.length ≤ 4000000 ∧ ∀ y ∈ l, WiPart y) (ha : WiAlarm a) : Ev (fun k => spec_PutAlarm.f k l a.f0 a.f1 a.f2 a.f3) (putAlarm l a) := by
  obtain ⟨K1, g1⟩ := specCopyStore_ev l h
  by_cases c : (l.length : Int) = 0
  · refine ⟨K1, fun k hk => ?_⟩
    have e1 := g1 k (by omega)
    simp only at e1
    simp only [spec_PutAlarm.f, e1, Option.bind_some]
    unfold putAlarm
    rw [if_pos c, if_pos c]
  · obtain ⟨r0, r1⟩ := homeOf_range l a.f0 c
    obtain ⟨K2, g2⟩ := specHomeOf_ev l a.f0 ha.1
    obtain ⟨K3, g3⟩ := specPutIn_ev (l.getD (homeOf l a.f0).toNat z26) a (h.2 _ (getD_mem l _ z26 (by omega))) ha
    refine ⟨K1 + K2 + K3, fun k hk => ?_⟩
    have e1 := g1 k (by omega)
    have e2 := g2 k (by omega)
    have e3 := g3 k (by omega)
    simp only at e1 e2 e3
    simp only [spec_PutAlarm.f, e1, e2, Option.bind_some]
    rw [if_neg c, if_pos r0, if_pos r1]
    unfold rd_T26
    rw [e3]
    simp only [Option.bind_some]
    rw [if_pos r1]
    unfold putAlarm
    rw [if_neg c]
/-- Labels in order, by names and by values. -/
def setLess : List S99 → List S99 → Bool
  | [], [] => false
  | [], _ :: _ => true
  | _ :: _, [] => false
  | x :: a, y :: b => if x.f0.toList = y.f0.toList then (if x.f1.toList = y.f1.toList then setLess a b else Op.bytesLess x.f1.toList y.f1.toList) else Op.bytesLess x.f0.toList y.f0.toList
theorem implSetLess_l0 (a b : List S99) (ha : a.length < 4611686018427387904) : ∀ (sa sb pa pb : List S99), pa ++ sa = a → pb ++ sb = b → pa.length = pb.length → Ev (fun k => impl_SetLess.l0 k a b (pa.length : Int)) (setLess sa sb)
  | [], sb, pa, pb, ea, eb, hp => by
    have hl : a.length = pa.length := by rw [← ea]; simp
    have hb : b.length = pb.length + sb.length := by rw [← eb]; simp
    refine Ev.step (f := fun k => impl_SetLess.j1 k a b (pa.length : Int) false) (fun k => ?_) (Ev.step (f := fun _ => some (setLess [] sb)) (fun k => ?_) (Ev.now _))
    · simp only [impl_SetLess.l0]; rw [if_neg (by omega)]
    · simp only [impl_SetLess.j1]; rw [if_neg (by simp)]
      cases sb with
      | nil => simp only [List.length_nil] at hb; rw [decide_eq_false (by omega)]; rfl
      | cons y sb => simp only [List.length_cons] at hb; rw [decide_eq_true (by omega)]; rfl
  | x :: sa, [], pa, pb, ea, eb, hp => by
    have hl : a.length = pa.length + (sa.length + 1) := by rw [← ea]; simp
    have hb : b.length = pb.length := by rw [← eb]; simp
    refine Ev.step (f := fun k => impl_SetLess.j1 k a b (pa.length : Int) false) (fun k => ?_) (Ev.step (f := fun _ => some (setLess (x :: sa) [])) (fun k => ?_) (Ev.now _))
    · simp only [impl_SetLess.l0]; rw [if_pos (by omega), decide_eq_false (by omega)]
    · simp only [impl_SetLess.j1]; rw [if_neg (by simp), decide_eq_false (by omega)]; rfl
  | x :: sa, y :: sb, pa, pb, ea, eb, hp => by
    have hl : a.length = pa.length + (sa.length + 1) := by rw [← ea]; simp
    have hb : b.length = pb.length + (sb.length + 1) := by rw [← eb]; simp
    have ga : a.getD pa.length z99 = x := by rw [← ea]; simp
    have gb : b.getD pa.length z99 = y := by rw [← eb, hp]; simp
    have ih := implSetLess_l0 a b ha sa sb (pa ++ [x]) (pb ++ [y]) (by rw [← ea]; simp) (by rw [← eb]; simp) (by simp [hp])
    refine Ev.step (f := fun k => impl_SetLess.j1 k a b (pa.length : Int) true) (fun k => ?_) ?_
    · simp only [impl_SetLess.l0]; rw [if_pos (by omega), decide_eq_true (by omega)]
    · refine Ev.step (f := fun k => if x.f0.toList = y.f0.toList then (if x.f1.toList = y.f1.toList then impl_SetLess.l0 k a b ((pa.length + 1 : Nat) : Int) else some (Op.bytesLess x.f1.toList y.f1.toList)) else some (Op.bytesLess x.f0.toList y.f0.toList)) (fun k => ?_) ?_
      · simp only [impl_SetLess.j1]
        rw [if_pos trivial, if_pos (by omega), if_pos (by omega), if_pos (by omega), rdnLabel, rdnLabel, ga, gb, wrap_up _ (by omega)]
      · unfold setLess
        by_cases h1 : x.f0.toList = y.f0.toList
        · simp only [if_pos h1]
          by_cases h2 : x.f1.toList = y.f1.toList
          · simp only [if_pos h2]; simpa using ih
          · simp only [if_neg h2]; exact Ev.now _
        · simp only [if_neg h1]; exact Ev.now _
theorem implSetLess_ev (a b : List S99) (ha : a.length < 4611686018427387904) : Ev (fun k => impl_SetLess.f k a b) (setLess a b) := by
  unfold impl_SetLess.f
  exact implSetLess_l0 a b ha a b [] [] rfl rfl rfl
theorem specSetLess_l0 (a b : List S99) (ha : a.length < 4611686018427387904) : ∀ (sa sb pa pb : List S99), pa ++ sa = a → pb ++ sb = b → pa.length = pb.length → Ev (fun k => spec_SetLess.l0 k a b (pa.length : Int)) (setLess sa sb)
  | [], sb, pa, pb, ea, eb, hp => by
    have hl : a.length = pa.length := by rw [← ea]; simp
    have hb : b.length = pb.length + sb.length := by rw [← eb]; simp
    refine Ev.step (f := fun k => spec_SetLess.j1 k a b (pa.length : Int) false) (fun k => ?_) (Ev.step (f := fun _ => some (setLess [] sb)) (fun k => ?_) (Ev.now _))
    · simp only [spec_SetLess.l0]; rw [if_neg (by omega)]
    · simp only [spec_SetLess.j1]; rw [if_neg (by simp)]
      cases sb with
      | nil => simp only [List.length_nil] at hb; rw [decide_eq_false (by omega)]; rfl
      | cons y sb => simp only [List.length_cons] at hb; rw [decide_eq_true (by omega)]; rfl
  | x :: sa, [], pa, pb, ea, eb, hp => by
    have hl : a.length = pa.length + (sa.length + 1) := by rw [← ea]; simp
    have hb : b.length = pb.length := by rw [← eb]; simp
    refine Ev.step (f := fun k => spec_SetLess.j1 k a b (pa.length : Int) false) (fun k => ?_) (Ev.step (f := fun _ => some (setLess (x :: sa) [])) (fun k => ?_) (Ev.now _))
    · simp only [spec_SetLess.l0]; rw [if_pos (by omega), decide_eq_false (by omega)]
    · simp only [spec_SetLess.j1]; rw [if_neg (by simp), decide_eq_false (by omega)]; rfl
  | x :: sa, y :: sb, pa, pb, ea, eb, hp => by
    have hl : a.length = pa.length + (sa.length + 1) := by rw [← ea]; simp
    have hb : b.length = pb.length + (sb.length + 1) := by rw [← eb]; simp
    have ga : a.getD pa.length z99 = x := by rw [← ea]; simp
    have gb : b.getD pa.length z99 = y := by rw [← eb, hp]; simp
    have ih := specSetLess_l0 a b ha sa sb (pa ++ [x]) (pb ++ [y]) (by rw [← ea]; simp) (by rw [← eb]; simp) (by simp [hp])
    refine Ev.step (f := fun k => spec_SetLess.j1 k a b (pa.length : Int) true) (fun k => ?_) ?_
    · simp only [spec_SetLess.l0]; rw [if_pos (by omega), decide_eq_true (by omega)]
    · refine Ev.step (f := fun k => if x.f0.toList = y.f0.toList then (if x.f1.toList = y.f1.toList then spec_SetLess.l0 k a b ((pa.length + 1 : Nat) : Int) else some (Op.bytesLess x.f1.toList y.f1.toList)) else some (Op.bytesLess x.f0.toList y.f0.toList)) (fun k => ?_) ?_
      · simp only [spec_SetLess.j1, spec_Less.f, Option.bind_some]
        rw [if_pos trivial, if_pos (by omega), if_pos (by omega), if_pos (by omega), rdnLabel, rdnLabel, ga, gb, wrap_up _ (by omega)]
      · unfold setLess
        by_cases h1 : x.f0.toList = y.f0.toList
        · simp only [if_pos h1]
          by_cases h2 : x.f1.toList = y.f1.toList
          · simp only [if_pos h2]; simpa using ih
          · simp only [if_neg h2]; exact Ev.now _
        · simp only [if_neg h1]; exact Ev.now _
theorem specSetLess_ev (a b : List S99) (ha : a.length < 4611686018427387904) : Ev (fun k => spec_SetLess.f k a b) (setLess a b) := by
  unfold spec_SetLess.f
  exact specSetLess_l0 a b ha a b [] [] rfl rfl rfl
end Go.Proofs.YtanfohlpkppeiaaGreat.Print
end
section
namespace Go.Proofs.YtanfohlpkppeiaaGreat.Print
open Go.RowKit Go.Proofs.YtanfohlpkppeiaaGreatV.PrintWords Go.Proofs.YtanfohlpkppeiaaGreatV.PrintLast Go.Proofs.YtanfohlpkppeiaaGreatV.PrintMore
set_option linter.unusedVariables false
set_option linter.unusedSimpArgs false
open Go.Sort
theorem bytesLess_dec : ∀ (x y : List UInt8), Op.bytesLess x y = decide (x < y)
  | [], [] => by simp [Op.bytesLess]
  | _ :: _, [] => by simp [Op.bytesLess]
  | [], _ :: _ => by simp [Op.bytesLess]
  | a :: x, b :: y => by
    rw [Op.bytesLess, bytesLess_dec x y]
    simp only [List.cons_lt_cons_iff]
    by_cases h1 : a < b <;> by_cases h2 : a = b <;> by_cases h3 : x < y <;> simp [h1, h2, h3]
def flatL : List S99 → List (List UInt8)
  | [] => []
  | x :: a => x.f0.toList :: x.f1.toList :: flatL a
theorem setLess_dec : ∀ a b, setLess a b = decide (flatL a < flatL b)
  | [], [] => by simp [setLess, flatL]
  | [], _ :: _ => by simp [setLess, flatL]
  | _ :: _, [] => by simp [setLess, flatL]
  | x :: a, y :: b => by
    unfold setLess
    rw [setLess_dec a b, bytesLess_dec, bytesLess_dec]
    simp only [flatL, List.cons_lt_cons_iff]
    by_cases h1 : x.f0.toList = y.f0.toList
    · rw [if_pos h1]
      by_cases h2 : x.f1.toList = y.f1.toList
      · rw [if_pos h2]; simp [h1, h2, List.lt_irrefl]
      · rw [if_neg h2]; simp [h1, h2, List.lt_irrefl]
    · rw [if_neg h1]; simp [h1]
def altA (x y : S29) : Bool := setLess x.f0 y.f0
theorem swo_altA : SWO altA where
  irrefl x := by simp [altA, setLess_dec, List.lt_irrefl]
  trans x y z h1 h2 := by simp only [altA, setLess_dec, decide_eq_true_eq] at *; exact List.lt_trans h1 h2
  ntrans x y z h1 h2 := by
    simp only [altA, setLess_dec, decide_eq_false_iff_not, List.not_lt] at *
    exact List.le_trans h2 h1
section
variable {α : Type} {lt : α → α → Bool}
/-- x is put in from the end, over what it is less than (the list turned). -/
def insR (lt : α → α → Bool) (x : α) : List α → List α
  | [] => [x]
  | y :: r => if lt x y = true then y :: insR lt x r else x :: y :: r
theorem insR_mem {x y : α} : ∀ {r : List α}, y ∈ insR lt x r ↔ y = x ∨ y ∈ r
  | [] => by simp [insR]
  | z :: r => by
    unfold insR
    split
    · rw [List.mem_cons, insR_mem (r := r), List.mem_cons]
      constructor
      · rintro (h | h | h)
        · exact .inr (.inl h)
        · exact .inl h
        · exact .inr (.inr h)
      · rintro (h | h | h)
        · exact .inr (.inl h)
        · exact .inl h
        · exact .inr (.inr h)
    · simp
theorem insR_length (x : α) : ∀ r : List α, (insR lt x r).length = r.length + 1
  | [] => rfl
  | y :: r => by
    unfold insR
    split
    · simp [insR_length x r]
    · simp
theorem insR_sorted (hS : SWO lt) (x : α) : ∀ r : List α, r.Pairwise (fun a b => lt a b = false) → (insR lt x r).Pairwise (fun a b => lt a b = false)
  | [], _ => by simp [insR]
  | y :: r, h => by
    obtain ⟨h1, h2⟩ := List.pairwise_cons.1 h
    unfold insR
    by_cases c : lt x y = true
    · rw [if_pos c]
      refine List.pairwise_cons.2 ⟨fun z hz => ?_, insR_sorted hS x r h2⟩
      rcases insR_mem.1 hz with rfl | hz
      · cases e : lt y z with
        | false => rfl
        | true => have := hS.trans _ _ _ c e; rw [hS.irrefl] at this; cases this
      · exact h1 z hz
    · rw [if_neg c]
      have c' : lt x y = false := by simpa using c
      refine List.pairwise_cons.2 ⟨fun z hz => ?_, h⟩
      rcases List.mem_cons.1 hz with rfl | hz
      · exact c'
      · exact hS.ntrans _ _ _ c' (h1 z hz)
theorem insR_filter (hS : SWO lt) (x c : α) : ∀ r : List α, (insR lt x r).filter (Stable.eqv lt c) = (x :: r).filter (Stable.eqv lt c)
  | [] => rfl
  | y :: r => by
    unfold insR
    by_cases h : lt x y = true
    · rw [if_pos h, List.filter_cons, insR_filter hS x c r]
      by_cases hy : Stable.eqv lt c y = true
      · have hx : Stable.eqv lt c x = false := Stable.eqv_no hS h hy
        simp [hx, hy]
      · simp [List.filter_cons, hy]
    · rw [if_neg h]
def insE (lt : α → α → Bool) (x : α) (out : List α) : List α := (insR lt x out.reverse).reverse
def sortE (lt : α → α → Bool) : List α → List α → List α
  | out, [] => out
  | out, x :: l => sortE lt (insE lt x out) l
theorem insE_mem {x y : α} {r : List α} : y ∈ insE lt x r ↔ y = x ∨ y ∈ r := by simp [insE, insR_mem]
theorem sortE_mem {y : α} : ∀ {l out : List α}, y ∈ sortE lt out l ↔ y ∈ out ∨ y ∈ l
  | [], out => by simp [sortE]
  | x :: l, out => by
    rw [sortE, sortE_mem (l := l), insE_mem, List.mem_cons]
    constructor
    · rintro ((h | h) | h)
      · exact .inr (.inl h)
      · exact .inl h
      · exact .inr (.inr h)
    · rintro (h | h | h)
      · exact .inl (.inr h)
      · exact .inl (.inl h)
      · exact .inr h
theorem sortE_length : ∀ (l out : List α), (sortE lt out l).length = out.length + l.length
  | [], out => rfl
  | x :: l, out => by rw [sortE, sortE_length l]; simp [insE, insR_length]; omega
theorem sortE_spec (hS : SWO lt) : ∀ (l out : List α), out.Pairwise (fun a b => lt b a = false) → (sortE lt out l).Pairwise (fun a b => lt b a = false) ∧ Stable.St lt (out ++ l) (sortE lt out l)
  | [], out, h => ⟨h, by rw [List.append_nil]; exact Stable.St.refl _⟩
  | x :: l, out, h => by
    have h1 : (insE lt x out).Pairwise (fun a b => lt b a = false) := by
      unfold insE; rw [List.pairwise_reverse]; exact insR_sorted hS x _ (by rw [List.pairwise_reverse]; exact h)
    obtain ⟨a, b⟩ := sortE_spec hS l (insE lt x out) h1
    refine ⟨a, fun c => ?_⟩
    rw [sortE, b c, List.filter_append, List.filter_append]
    have : (insE lt x out).filter (Stable.eqv lt c) = (out ++ [x]).filter (Stable.eqv lt c) := by
      unfold insE; rw [List.filter_reverse, insR_filter hS, ← List.filter_reverse]; simp
    rw [this, List.filter_append, List.append_assoc, ← List.filter_append]; rfl
theorem insR_map {β : Type} (f : β → α) (x : β) : ∀ r : List β, (insR (fun i j => lt (f i) (f j)) x r).map f = insR lt (f x) (r.map f)
  | [] => rfl
  | y :: r => by
    simp only [insR, List.map_cons]
    split
    · rw [List.map_cons, insR_map f x r]
    · rfl
theorem sortE_map {β : Type} (f : β → α) : ∀ (l out : List β), (sortE (fun i j => lt (f i) (f j)) out l).map f = sortE lt (out.map f) (l.map f)
  | [], out => rfl
  | x :: l, out => by
    rw [sortE, sortE_map f l]
    simp only [List.map_cons, sortE]
    congr 1
    simp only [insE]; rw [List.map_reverse, insR_map, List.map_reverse]
end
theorem Ev.all {β γ : Type} (f : β → Nat → Option γ) (v : β → γ) : ∀ l : List β, (∀ x ∈ l, Ev (f x) (v x)) → ∃ K, ∀ x ∈ l, ∀ k, K ≤ k → f x k = some (v x)
  | [], _ => ⟨0, fun _ h => by cases h⟩
  | y :: l, h => by
    obtain ⟨K, g⟩ := Ev.all f v l (fun x hx => h x (List.mem_cons_of_mem _ hx))
    obtain ⟨K1, g1⟩ := h y List.mem_cons_self
    refine ⟨K + K1, fun x hx k hk => ?_⟩
    rcases List.mem_cons.1 hx with rfl | hx
    · exact g1 k (by omega)
    · exact g x hx k (by omega)
theorem byl_lt {x y : S29} (h : x.f0.length ≤ 5000000) : impl_byLabels.lt x y = altA x y := by
  obtain ⟨K, g⟩ := implSetLess_ev x.f0 y.f0 (by omega)
  exact impl_byLabels.lt_eq (g K (Nat.le_refl _))
theorem byl_at (l : List S29) (hl : ∀ y ∈ l, y.f0.length ≤ 5000000) (j : Nat) : (impl_byLabels.at_ l j).f0.length ≤ 5000000 := by
  unfold impl_byLabels.at_
  cases l with
  | nil => show (z29).f0.length ≤ _; simp [z29]
  | cons a l =>
    rw [List.getD_eq_getElem?_getD]
    have : (if j < (a :: l).length then j else 0) < (a :: l).length := by
      split
      · assumption
      · simp
    rw [List.getElem?_eq_getElem this]
    exact hl _ (List.getElem_mem _)
theorem byl_ltn (l : List S29) (hl : ∀ y ∈ l, y.f0.length ≤ 5000000) : impl_byLabels.ltn l = fun i j => altA (impl_byLabels.at_ l i) (impl_byLabels.at_ l j) := by
  funext i j
  exact byl_lt (byl_at l hl i)
theorem byl_map (l : List S29) : (List.range l.length).map (impl_byLabels.at_ l) = l := by
  apply List.ext_getElem
  · simp
  · intro i h1 h2
    simp [impl_byLabels.at_, h2]
theorem byl_out (l : List S29) (hl : ∀ y ∈ l, y.f0.length ≤ 5000000) : impl_byLabels.out l = sortE altA [] l := by
  have hS : SWO (impl_byLabels.ltn l) := by
    rw [byl_ltn l hl]
    exact ⟨fun x => swo_altA.irrefl _, fun x y z => swo_altA.trans _ _ _, fun x y z => swo_altA.ntrans _ _ _⟩
  obtain ⟨a, b⟩ := sortE_spec hS (List.range l.length) [] List.Pairwise.nil
  have e := Stable.stable_eq hS (Array.range l.length) (sortE (impl_byLabels.ltn l) [] (List.range l.length)) (by simpa using b) a
  rw [Array.size_range] at e
  unfold impl_byLabels.out
  rw [e, byl_ltn l hl, sortE_map, byl_map]; rfl
theorem implByLabels_ev (l : List S29) (h : l.length ≤ 4000000 ∧ ∀ y ∈ l, WiAlarm y) : Ev (fun k => impl_byLabels.f k l) (sortE altA [] l) := by
  have hl : ∀ y ∈ l, y.f0.length ≤ 5000000 := fun y hy => Nat.le_trans (h.2 y hy).1.1 (by decide)
  have hS : SWO (impl_byLabels.ltn l) := by
    rw [byl_ltn l hl]
    exact ⟨fun x => swo_altA.irrefl _, fun x y z => swo_altA.trans _ _ _, fun x y z => swo_altA.ntrans _ _ _⟩
  have hp : ∀ x ∈ l, ∃ K, ∀ y ∈ l, ∀ k, K ≤ k → impl_SetLess.f k x.f0 y.f0 = some (setLess x.f0 y.f0) := fun x hx => Ev.all (fun y k => impl_SetLess.f k x.f0 y.f0) (fun y => setLess x.f0 y.f0) l (fun y hy => implSetLess_ev _ _ (by have := hl x hx; omega))
  have hq : ∀ m : List S29, (∀ x ∈ m, x ∈ l) → ∃ K, ∀ x ∈ m, ∀ y ∈ l, ∀ k, K ≤ k → impl_SetLess.f k x.f0 y.f0 = some (setLess x.f0 y.f0) := fun m => by
    induction m with
    | nil => exact fun _ => ⟨0, fun _ h => by cases h⟩
    | cons z m ih =>
      intro hm
      obtain ⟨K, g⟩ := ih (fun x hx => hm x (List.mem_cons_of_mem _ hx))
      obtain ⟨K1, g1⟩ := hp z (hm z List.mem_cons_self)
      refine ⟨K + K1, fun x hx y hy k hk => ?_⟩
      rcases List.mem_cons.1 hx with rfl | hx
      · exact g1 y hy k (by omega)
      · exact g x hx y hy k (by omega)
  obtain ⟨K, g⟩ := hq l (fun _ h => h)
  refine ⟨K, fun k hk => ?_⟩
  show impl_byLabels.f k l = _
  unfold impl_byLabels.f
  rw [if_pos ⟨fun x hx y hy => by rw [g x hx y hy k hk]; rfl, by omega, hS⟩, byl_out l hl]
end Go.Proofs.YtanfohlpkppeiaaGreat.Print
end
section
namespace Go.Proofs.YtanfohlpkppeiaaGreat.Print
open Go.RowKit Go.Proofs.YtanfohlpkppeiaaGreatV.PrintWords Go.Proofs.YtanfohlpkppeiaaGreatV.PrintLast Go.Proofs.YtanfohlpkppeiaaGreatV.PrintMore
set_option linter.unusedVariables false
set_option linter.unusedSimpArgs false
theorem rdmidParti (pre suf : List S26) (y : S26) : rd_T26 (pre ++ y :: suf) (pre.length : Int) = y := by unfold rd_T26; simp
theorem rdmidChaini (pre suf : List S80) (y : S80) : rd_T80 (pre ++ y :: suf) (pre.length : Int) = y := by unfold rd_T80; simp
def inC : List S80 → List S29
  | [] => []
  | c :: cs => c.f1 ++ inC cs
theorem specAlarmsIn_l0 (o0 o1 : Int) : ∀ (suf pre : List S80) (acc : List S29), (pre ++ suf).length ≤ 5000000 → acc.length + (inC suf).length ≤ 5000000 → (∀ c ∈ suf, ∀ y ∈ c.f1, y.f0.length ≤ 5000000) →
    Ev (fun k => spec_AlarmsIn.l0 k acc (pre.length : Int) o0 o1 (pre ++ suf)) (acc ++ inC suf)
  | [], pre, acc, h, ha, hW => by
    refine Ev.step (f := fun _ => some (acc ++ ([] : List S29))) (fun k => ?_) (Ev.now _)
    simp only [spec_AlarmsIn.l0]
    rw [if_neg (not_lt_end pre)]
    simp
  | y :: suf, pre, acc, h, ha, hW => by
    have hp : pre.length < 5000000 := by simp at h; omega
    have hl : acc.length + (y.f1.length + (inC suf).length) ≤ 5000000 := by simpa [inC] using ha
    obtain ⟨K, g⟩ := specAlarmsIn_l0 o0 o1 suf (pre ++ [y]) (acc ++ y.f1) (by simpa using h) (by simp; omega) (fun z hz => hW z (List.mem_cons_of_mem _ hz))
    obtain ⟨K1, g1⟩ := specL4All_ev y.f1 (by omega) (hW y List.mem_cons_self)
    refine ⟨K + K1 + 1, fun k hk => ?_⟩
    obtain ⟨k, rfl⟩ : ∃ m, k = m + 1 := ⟨k - 1, by omega⟩
    have G := g k (by omega)
    have G1 := g1 k (by omega)
    simp only at G G1
    simp only [spec_AlarmsIn.l0]
    rw [if_pos (lt_mid pre suf y), if_pos (nn _), rdmidChaini, G1, Option.bind_some, if_pos (by omega), wrap_up _ (by omega)]
    rw [show pre ++ y :: suf = (pre ++ [y]) ++ suf by simp, show ((pre.length + 1 : Nat) : Int) = ((pre ++ [y]).length : Int) by simp, G]
    simp [inC]
theorem implAlarmsIn_l0 : ∀ (suf pre : List S80) (acc : List S29), (pre ++ suf).length ≤ 5000000 → acc.length + (inC suf).length ≤ 5000000 → (∀ c ∈ suf, ∀ y ∈ c.f1, y.f0.length ≤ 5000000) →
    Ev (fun k => impl_AlarmsIn.l0 k acc (pre ++ suf) ((pre ++ suf).length : Int) (pre.length : Int)) (acc ++ inC suf)
  | [], pre, acc, h, ha, hW => by
    refine Ev.step (f := fun _ => some (acc ++ ([] : List S29))) (fun k => ?_) (Ev.now _)
    simp only [impl_AlarmsIn.l0]
    rw [if_neg (not_lt_end pre)]
    simp
  | y :: suf, pre, acc, h, ha, hW => by
    have hp : pre.length < 5000000 := by simp at h; omega
    have hl : acc.length + (y.f1.length + (inC suf).length) ≤ 5000000 := by simpa [inC] using ha
    obtain ⟨K, g⟩ := implAlarmsIn_l0 suf (pre ++ [y]) (acc ++ y.f1) (by simpa using h) (by simp; omega) (fun z hz => hW z (List.mem_cons_of_mem _ hz))
    obtain ⟨K1, g1⟩ := implCopyAlarms_ev y.f1 (by omega) (hW y List.mem_cons_self)
    refine ⟨K + K1 + 1, fun k hk => ?_⟩
    obtain ⟨k, rfl⟩ : ∃ m, k = m + 1 := ⟨k - 1, by omega⟩
    have G := g k (by omega)
    have G1 := g1 k (by omega)
    simp only at G G1
    simp only [impl_AlarmsIn.l0]
    rw [if_pos (lt_mid pre suf y), if_pos (nn _), if_pos (lt_mid pre suf y), rdmidChaini, G1, Option.bind_some, if_pos (by omega), wrap_up _ (by omega)]
    rw [show pre ++ y :: suf = (pre ++ [y]) ++ suf by simp, show ((pre.length + 1 : Nat) : Int) = ((pre ++ [y]).length : Int) by simp, G]
    simp [inC]
theorem specAlarmsIn_ev (p : S26) (h : p.f2.length ≤ 5000000) (hl : (inC p.f2).length ≤ 5000000) (hW : ∀ c ∈ p.f2, ∀ y ∈ c.f1, y.f0.length ≤ 5000000) : Ev (fun k => spec_AlarmsIn.f k p.f0 p.f1 p.f2) (inC p.f2) :=
  Ev.congr (fun k => by unfold spec_AlarmsIn.f; rfl) (specAlarmsIn_l0 p.f0 p.f1 p.f2 [] [] (by simpa using h) (by simpa using hl) hW)
theorem implAlarmsIn_ev (p : S26) (h : p.f2.length ≤ 5000000) (hl : (inC p.f2).length ≤ 5000000) (hW : ∀ c ∈ p.f2, ∀ y ∈ c.f1, y.f0.length ≤ 5000000) : Ev (fun k => impl_AlarmsIn.f k p.f0 p.f1 p.f2) (inC p.f2) :=
  Ev.congr (fun k => by unfold impl_AlarmsIn.f; rfl) (implAlarmsIn_l0 p.f2 [] [] (by simpa using h) (by simpa using hl) hW)
theorem inC_mem {y : S29} : ∀ {l : List S80}, y ∈ inC l → ∃ c ∈ l, y ∈ c.f1
  | [], h => by cases h
  | c :: l, h => by
    rcases List.mem_append.1 h with h | h
    · exact ⟨c, List.mem_cons_self, h⟩
    · obtain ⟨d, hd, hy⟩ := inC_mem h; exact ⟨d, List.mem_cons_of_mem _ hd, hy⟩
theorem rdmidAlarmi (pre suf : List S29) (y : S29) : rd_T29 (pre ++ y :: suf) (pre.length : Int) = y := by unfold rd_T29; simp
theorem specL8Sort_j2 (x0 : List S29) (x4 : Int) (x : S29) (r suf : List S29) (h : r.length + suf.length ≤ 5000000) (k : Nat) :
    spec_l8Sort.j2 (k + 1) x0 (r.reverse ++ suf) x4 (r.length : Int) false x.f0 x.f1 x.f2 x.f3 = spec_l8Sort.l0 k x0 ((x :: r).reverse ++ suf) (wrap64 (x4 + 1)) := by
  have e1 : (r.reverse ++ suf).take ((r.length : Int)).toNat = r.reverse := by simp
  have e2 : (r.reverse ++ suf).drop ((r.length : Int)).toNat = suf := by simp
  have c1 : (r.length : Int) ≤ ((r.reverse ++ suf).length : Int) := by simp only [List.length_append, List.length_reverse]; omega
  simp only [spec_l8Sort.j2]
  rw [if_neg (by simp)]
  simp only [Option.bind_some, e1, e2, nn, c1, if_true, List.nil_append, List.length_nil]
  rw [if_pos (by simp only [List.length_reverse]; omega), if_pos (by simp only [List.length_reverse]; omega), if_pos (by simp only [List.length_append, List.length_reverse, List.length_cons, List.length_nil]; omega)]
  simp
theorem specL8Sort_l1 (x0 : List S29) (x4 : Int) (x : S29) (hx : x.f0.length ≤ 5000000) (v : List S29) : ∀ (r suf : List S29), r.length + suf.length ≤ 5000000 →
    Ev (fun k => spec_l8Sort.l0 k x0 ((insR altA x r).reverse ++ suf) (wrap64 (x4 + 1))) v → Ev (fun k => spec_l8Sort.l1 k x0 (r.reverse ++ suf) x4 (r.length : Int) x.f0 x.f1 x.f2 x.f3) v
  | [], suf, h, ⟨K, g⟩ => by
    refine ⟨K + 2, fun k hk => ?_⟩
    obtain ⟨k, rfl⟩ : ∃ m, k = m + 2 := ⟨k - 2, by omega⟩
    show spec_l8Sort.l1 (k + 1 + 1) _ _ _ _ _ _ _ _ = _
    unfold spec_l8Sort.l1
    rw [if_neg (by simp)]
    have := specL8Sort_j2 x0 x4 x [] suf h k
    rw [this]
    exact g k (by omega)
  | y :: r, suf, h, hv => by
    have hr : r.length + (suf.length + 1) ≤ 5000000 := by simp only [List.length_cons] at h; omega
    obtain ⟨K1, g1⟩ := specSetLess_ev x.f0 y.f0 (by omega)
    simp only at g1
    have e1 : wrap64 (((y :: r).length : Int) - 1) = (r.length : Int) := (wrap_id (by simp only [List.length_cons]; omega) (by simp only [List.length_cons]; omega)).trans (by simp only [List.length_cons]; omega)
    have eL : (y :: r).reverse ++ suf = r.reverse ++ y :: suf := by simp
    have eR : rd_T29 (r.reverse ++ y :: suf) (r.length : Int) = y := by
      have := rdmidAlarmi r.reverse suf y
      rwa [List.length_reverse] at this
    have c1 : (r.length : Int) < ((r.reverse ++ y :: suf).length : Int) := by simp only [List.length_append, List.length_reverse, List.length_cons]; omega
    have c0 : ((y :: r).length : Int) > 0 := by simp only [List.length_cons]; omega
    by_cases c : altA x y = true
    · have e : (insR altA x (y :: r)).reverse ++ suf = (insR altA x r).reverse ++ y :: suf := by
        rw [insR, if_pos c]; simp
      rw [e] at hv
      obtain ⟨K, g⟩ := specL8Sort_l1 x0 x4 x hx v r (y :: suf) (by simpa using hr) hv
      refine ⟨K + K1 + 2, fun k hk => ?_⟩
      obtain ⟨k, rfl⟩ : ∃ m, k = m + 2 := ⟨k - 2, by omega⟩
      show spec_l8Sort.l1 (k + 1 + 1) _ _ _ _ _ _ _ _ = _
      unfold spec_l8Sort.l1
      rw [if_pos c0, e1, if_pos (nn _), eL, if_pos c1, eR, g1 (k + 1) (by omega), Option.bind_some, show setLess x.f0 y.f0 = true from c]
      unfold spec_l8Sort.j2
      rw [if_pos rfl, e1]
      exact g k (by omega)
    · have e : (insR altA x (y :: r)).reverse ++ suf = (x :: y :: r).reverse ++ suf := by
        rw [insR, if_neg c]
      rw [e] at hv
      obtain ⟨K, g⟩ := hv
      refine ⟨K + K1 + 2, fun k hk => ?_⟩
      obtain ⟨k, rfl⟩ : ∃ m, k = m + 2 := ⟨k - 2, by omega⟩
      show spec_l8Sort.l1 (k + 1 + 1) _ _ _ _ _ _ _ _ = _
      unfold spec_l8Sort.l1
      rw [if_pos c0, e1, if_pos (nn _), eL, if_pos c1, eR, g1 (k + 1) (by omega), Option.bind_some, show setLess x.f0 y.f0 = false by simpa [altA] using c, ← eL, specL8Sort_j2 x0 x4 x (y :: r) suf h k]
      exact g k (by omega)
theorem specL8Sort_l0 : ∀ (suf pre out : List S29), (pre ++ suf).length ≤ 5000000 → out.length = pre.length → (∀ y ∈ suf, y.f0.length ≤ 5000000) → Ev (fun k => spec_l8Sort.l0 k (pre ++ suf) out (pre.length : Int)) (sortE altA out suf)
  | [], pre, out, h, ho, hW => by
    refine Ev.step (f := fun _ => some out) (fun k => ?_) (Ev.now _)
    simp only [spec_l8Sort.l0]
    rw [if_neg (not_lt_end pre)]
  | y :: suf, pre, out, h, ho, hW => by
    have hp : pre.length < 5000000 := by simp at h; omega
    have ih := specL8Sort_l0 suf (pre ++ [y]) (insE altA y out) (by simpa using h) (by simp [insE, insR_length, ho]) (fun z hz => hW z (List.mem_cons_of_mem _ hz))
    have hy := hW y List.mem_cons_self
    have hv : Ev (fun k => spec_l8Sort.l0 k (pre ++ y :: suf) ((insR altA y out.reverse).reverse ++ []) (wrap64 ((pre.length : Int) + 1))) (sortE altA out (y :: suf)) := by
      rw [wrap_up _ (by omega), List.append_nil]
      rw [show pre ++ y :: suf = (pre ++ [y]) ++ suf by simp, show ((pre.length + 1 : Nat) : Int) = ((pre ++ [y]).length : Int) by simp]
      exact ih
    obtain ⟨K, g⟩ := specL8Sort_l1 (pre ++ y :: suf) (pre.length : Int) y hy _ out.reverse [] (by simp; omega) hv
    refine ⟨K + 1, fun k hk => ?_⟩
    obtain ⟨k, rfl⟩ : ∃ m, k = m + 1 := ⟨k - 1, by omega⟩
    have G := g k (by omega)
    simp only [List.reverse_reverse, List.append_nil, List.length_reverse] at G
    show spec_l8Sort.l0 (k + 1) _ _ _ = _
    unfold spec_l8Sort.l0
    rw [if_pos (lt_mid pre suf y), if_pos (nn _), rdmidAlarmi, specL4Copy_ev y hy, Option.bind_some]
    exact G
theorem specL8Sort_ev (l : List S29) (h : l.length ≤ 4000000 ∧ ∀ y ∈ l, WiAlarm y) : Ev (fun k => spec_l8Sort.f k l) (sortE altA [] l) :=
  Ev.congr (fun k => by unfold spec_l8Sort.f; rfl) (specL8Sort_l0 l [] [] (by simp; omega) rfl (fun y hy => Nat.le_trans (h.2 y hy).1.1 (by decide)))
theorem okAl {l : List S29} (h : l.length ≤ 4000000 ∧ ∀ y ∈ l, WiAlarm y) : l.length ≤ 5000000 ∧ ∀ y ∈ l, y.f0.length ≤ 5000000 := ⟨by omega, fun y hy => Nat.le_trans (h.2 y hy).1.1 (by decide)⟩
def inS : List S26 → List S29
  | [] => []
  | p :: ps => inC p.f2 ++ inS ps
theorem inS_mem {y : S29} : ∀ {l : List S26}, y ∈ inS l → ∃ p ∈ l, y ∈ inC p.f2
  | [], h => by cases h
  | c :: l, h => by
    rcases List.mem_append.1 h with h | h
    · exact ⟨c, List.mem_cons_self, h⟩
    · obtain ⟨d, hd, hy⟩ := inS_mem h; exact ⟨d, List.mem_cons_of_mem _ hd, hy⟩
theorem specAllAlarms_l0 (v : List S29) : ∀ (suf pre : List S26) (acc : List S29), (pre ++ suf).length ≤ 5000000 → acc.length + (inS suf).length ≤ 5000000 → (∀ p ∈ suf, WiPart p) → Ev (fun k => spec_l8Sort.f k (acc ++ inS suf)) v →
    Ev (fun k => spec_AllAlarms.l0 k (pre ++ suf) acc (pre.length : Int)) v
  | [], pre, acc, h, ha, hW, hv => by
    refine Ev.step (f := fun k => spec_l8Sort.f k (acc ++ inS [])) (fun k => ?_) hv
    simp only [spec_AllAlarms.l0]
    rw [if_neg (not_lt_end pre)]
    simp [inS]
  | y :: suf, pre, acc, h, ha, hW, hv => by
    have hp : pre.length < 5000000 := by simp at h; omega
    have hl : acc.length + ((inC y.f2).length + (inS suf).length) ≤ 5000000 := by simpa [inS] using ha
    have hy := hW y List.mem_cons_self
    obtain ⟨K, g⟩ := specAllAlarms_l0 v suf (pre ++ [y]) (acc ++ inC y.f2) (by simpa using h) (by simp; omega) (fun z hz => hW z (List.mem_cons_of_mem _ hz)) (by simpa [inS] using hv)
    obtain ⟨K1, g1⟩ := specAlarmsIn_ev y (Nat.le_trans hy.2.2.1 (by decide)) (by omega) (fun c hc => (okAl (hy.2.2.2 c hc).2).2)
    refine ⟨K + K1 + 1, fun k hk => ?_⟩
    obtain ⟨k, rfl⟩ : ∃ m, k = m + 1 := ⟨k - 1, by omega⟩
    have G := g k (by omega)
    have G1 := g1 k (by omega)
    simp only at G G1
    simp only [spec_AllAlarms.l0]
    rw [if_pos (lt_mid pre suf y), if_pos (nn _), rdmidParti, G1, Option.bind_some, if_pos (by omega), wrap_up _ (by omega)]
    rw [show pre ++ y :: suf = (pre ++ [y]) ++ suf by simp, show ((pre.length + 1 : Nat) : Int) = ((pre ++ [y]).length : Int) by simp, G]
theorem implAllAlarms_l0 (v : List S29) : ∀ (suf pre : List S26) (acc : List S29), (pre ++ suf).length ≤ 5000000 → acc.length + (inS suf).length ≤ 5000000 → (∀ p ∈ suf, WiPart p) → Ev (fun k => impl_byLabels.f k (acc ++ inS suf)) v →
    Ev (fun k => impl_AllAlarms.l0 k acc (pre ++ suf) ((pre ++ suf).length : Int) (pre.length : Int)) v
  | [], pre, acc, h, ha, hW, hv => by
    refine Ev.step (f := fun k => impl_byLabels.f k (acc ++ inS [])) (fun k => ?_) hv
    simp only [impl_AllAlarms.l0]
    rw [if_neg (not_lt_end pre)]
    simp [inS]
  | y :: suf, pre, acc, h, ha, hW, hv => by
    have hp : pre.length < 5000000 := by simp at h; omega
    have hl : acc.length + ((inC y.f2).length + (inS suf).length) ≤ 5000000 := by simpa [inS] using ha
    have hy := hW y List.mem_cons_self
    obtain ⟨K, g⟩ := implAllAlarms_l0 v suf (pre ++ [y]) (acc ++ inC y.f2) (by simpa using h) (by simp; omega) (fun z hz => hW z (List.mem_cons_of_mem _ hz)) (by simpa [inS] using hv)
    obtain ⟨K1, g1⟩ := implAlarmsIn_ev y (Nat.le_trans hy.2.2.1 (by decide)) (by omega) (fun c hc => (okAl (hy.2.2.2 c hc).2).2)
    refine ⟨K + K1 + 1, fun k hk => ?_⟩
    obtain ⟨k, rfl⟩ : ∃ m, k = m + 1 := ⟨k - 1, by omega⟩
    have G := g k (by omega)
    have G1 := g1 k (by omega)
    simp only at G G1
    simp only [impl_AllAlarms.l0]
    rw [if_pos (lt_mid pre suf y), if_pos (nn _), if_pos (lt_mid pre suf y), rdmidParti, G1, Option.bind_some, if_pos (by omega), wrap_up _ (by omega)]
    rw [show pre ++ y :: suf = (pre ++ [y]) ++ suf by simp, show ((pre.length + 1 : Nat) : Int) = ((pre ++ [y]).length : Int) by simp, G]
def allA (l : List S26) : List S29 := sortE altA [] (inS l)
theorem inS_wi {l : List S26} (h : l.length ≤ 4000000 ∧ ∀ y ∈ l, WiPart y) (hl : (inS l).length ≤ 4000000) : (inS l).length ≤ 4000000 ∧ ∀ y ∈ inS l, WiAlarm y :=
  ⟨hl, fun y hy => by
    obtain ⟨p, hp, hy⟩ := inS_mem hy
    obtain ⟨c, hc, hy⟩ := inC_mem hy
    exact (((h.2 p hp).2.2.2 c hc).2.2 y hy)⟩
theorem specAllAlarms_ev (l : List S26) (h : l.length ≤ 4000000 ∧ ∀ y ∈ l, WiPart y) (hl : (inS l).length ≤ 4000000) : Ev (fun k => spec_AllAlarms.f k l) (allA l) :=
  Ev.congr (fun k => by unfold spec_AllAlarms.f; rfl) (specAllAlarms_l0 (allA l) l [] [] (by simp; omega) (by simp; omega) h.2 (by simpa [allA] using specL8Sort_ev (inS l) (inS_wi h hl)))
theorem implAllAlarms_ev (l : List S26) (h : l.length ≤ 4000000 ∧ ∀ y ∈ l, WiPart y) (hl : (inS l).length ≤ 4000000) : Ev (fun k => impl_AllAlarms.f k l) (allA l) :=
  Ev.congr (fun k => by unfold impl_AllAlarms.f; rfl) (implAllAlarms_l0 (allA l) l [] [] (by simp; omega) (by simp; omega) h.2 (by simpa [allA] using implByLabels_ev (inS l) (inS_wi h hl)))
theorem rdnPart (l : List S26) (i : Nat) : rd_T26 l (i : Int) = l.getD i z26 := by unfold rd_T26; simp
theorem rdnChain (l : List S80) (i : Nat) : rd_T80 l (i : Int) = l.getD i z80 := by unfold rd_T80; simp
def cntC (acc : Int) (cs : List S80) : Int := cs.foldl (fun a c => wrap64 (a + (c.f1.length : Int))) acc
def cntP (acc : Int) (ps : List S26) : Int := ps.foldl (fun a p => cntC a p.f2) acc
def countOf (ps : List S26) : Int := cntP 0 ps
theorem implCount_l1 (x8 : List S26) (x9 : Int) (i : Nat) (hi : i < 4611686018427387904) (x15 : List S80) (hx : x15.length ≤ 4000000) (r : Int) : ∀ (suf pre : List S80) (acc : Int), pre ++ suf = x15 → Ev (fun k => impl_CountOf.l0 k (cntC acc suf) x8 x9 ((i + 1 : Nat) : Int)) r →
    Ev (fun k => impl_CountOf.l1 k acc x8 x9 (i : Int) x15 (x15.length : Int) (pre.length : Int)) r
  | [], pre, acc, e, h => by
    refine Ev.step (fun k => ?_) h
    simp only [impl_CountOf.l1]
    rw [if_neg (by rw [← e]; simp), wrap_up i (by omega)]
    rfl
  | y :: suf, pre, acc, e, h => by
    have hl : pre.length < x15.length := by rw [← e]; simp
    have hg : x15.getD pre.length z80 = y := by rw [← e]; simp
    have ih := implCount_l1 x8 x9 i hi x15 hx r suf (pre ++ [y]) (wrap64 (acc + (y.f1.length : Int))) (by rw [← e]; simp) h
    refine Ev.step (f := fun k => impl_CountOf.l1 k (wrap64 (acc + (y.f1.length : Int))) x8 x9 (i : Int) x15 (x15.length : Int) ((pre.length + 1 : Nat) : Int)) (fun k => ?_) (by simpa using ih)
    simp only [impl_CountOf.l1]
    rw [if_pos (by omega), if_pos (by omega), if_pos (by omega), rdnChain, hg, wrap_up _ (by omega)]
theorem implCount_l0 (x8 : List S26) (h : x8.length ≤ 4000000 ∧ ∀ y ∈ x8, WiPart y) : ∀ (suf pre : List S26) (acc : Int), pre ++ suf = x8 → Ev (fun k => impl_CountOf.l0 k acc x8 (x8.length : Int) (pre.length : Int)) (cntP acc suf)
  | [], pre, acc, e => by
    refine Ev.step (f := fun _ => some acc) (fun k => ?_) (Ev.now _)
    simp only [impl_CountOf.l0]
    rw [if_neg (by rw [← e]; simp)]
  | y :: suf, pre, acc, e => by
    have h1 := h.1
    have hl : pre.length < x8.length := by rw [← e]; simp
    have hg : x8.getD pre.length z26 = y := by rw [← e]; simp
    have hy := (h.2 y (by rw [← e]; simp)).2.2.1
    have ih := implCount_l0 x8 h suf (pre ++ [y]) (cntC acc y.f2) (by rw [← e]; simp)
    refine Ev.step (f := fun k => impl_CountOf.l1 k acc x8 (x8.length : Int) (pre.length : Int) y.f2 (y.f2.length : Int) ((([] : List S80).length : Nat) : Int)) (fun k => ?_) (implCount_l1 x8 _ pre.length (by omega) y.f2 hy _ y.f2 [] acc rfl (by simpa [cntP] using ih))
    simp only [impl_CountOf.l0]
    rw [if_pos (by omega), if_pos (by omega), if_pos (by omega), rdnPart, hg]
    rfl
theorem implCountOf_ev (l : List S26) (h : l.length ≤ 4000000 ∧ ∀ y ∈ l, WiPart y) : Ev (fun k => impl_CountOf.f k l) (countOf l) := by
  unfold impl_CountOf.f countOf
  exact implCount_l0 l h l [] 0 rfl
theorem and_top (x : Int) (m : Nat) (hm : m < 9223372036854775808) : 0 ≤ Go.bits .and .i64 x (m : Int) ∧ Go.bits .and .i64 x (m : Int) ≤ m := by
  have h1 : (BitVec.ofInt 64 x &&& BitVec.ofInt 64 (m : Int)).toNat ≤ m := by
    rw [BitVec.toNat_and]
    refine Nat.le_trans Nat.and_le_right ?_
    rw [BitVec.ofInt_natCast, BitVec.toNat_ofNat]
    exact Nat.mod_le _ _
  have h2 : Go.bits .and .i64 x (m : Int) = ((BitVec.ofInt 64 x &&& BitVec.ofInt 64 (m : Int)).toNat : Int) := by
    show IntKind.i64.wrap ((BitVec.ofInt 64 x &&& BitVec.ofInt 64 (m : Int)).toNat : Int) = _
    rw [IntKind.wrap_i64]
    omega
  rw [h2]; omega
theorem dNew_l0 (l : List Int) (hl : l.length ≤ 1048576) : ∀ (n i : Nat) (h : Int), l.length ≤ i + n → ∃ s, Ev (fun k => spec_l1New.l0 k l h (i : Int)) (l, 0, s)
  | 0, i, h, hn => ⟨h, 1, fun k hk => by
    obtain ⟨k, rfl⟩ : ∃ m, k = m + 1 := ⟨k - 1, by omega⟩
    simp only [spec_l1New.l0]; rw [if_neg (by omega)]⟩
  | n + 1, i, h, hn => by
    by_cases c : (i : Int) < (l.length : Int)
    · by_cases c2 : (i : Int) < 4000
      · obtain ⟨s, K, g⟩ := dNew_l0 l hl n (i + 1) (Go.bits .and .i64 (wrap64 ((wrap64 ((wrap64 (h * 137)) + (wrap64 (rd l (i : Int))))) + 11)) 1073741823) (by omega)
        refine ⟨s, K + 1, fun k hk => ?_⟩
        obtain ⟨k, rfl⟩ : ∃ m, k = m + 1 := ⟨k - 1, by omega⟩
        have e := g k (by omega)
        simp only at e
        simp only [spec_l1New.l0]
        rw [if_pos c, if_pos c2, if_pos (by omega), wrap_up i (by omega), e]
      · refine ⟨h, 1, fun k hk => ?_⟩
        obtain ⟨k, rfl⟩ : ∃ m, k = m + 1 := ⟨k - 1, by omega⟩
        simp only [spec_l1New.l0]; rw [if_pos c, if_neg c2]
    · refine ⟨h, 1, fun k hk => ?_⟩
      obtain ⟨k, rfl⟩ : ∃ m, k = m + 1 := ⟨k - 1, by omega⟩
      simp only [spec_l1New.l0]; rw [if_neg c]
theorem dNew (l : List Int) (hl : l.length ≤ 1048576) : ∃ s, Ev (fun k => spec_l1New.f k l) (l, 0, s) := by
  obtain ⟨s, g⟩ := dNew_l0 l hl l.length 0 (wrap64 (140873 + (l.length : Int))) (by omega)
  exact ⟨s, g⟩
section
variable (l : List Int) (hl : l.length ≤ 1048576)
include hl
theorem dByte (p s : Int) (hp : 0 ≤ p) : ∃ v p' s', spec_l1Byte.f l p s = some (v, p', s') ∧ 0 ≤ p' ∧ 0 ≤ v ∧ v < 256 := by
  unfold spec_l1Byte.f
  have a1 := fun x => and_top x 255 (by decide)
  by_cases c : p < (l.length : Int)
  · rw [if_pos c, if_pos hp]
    refine ⟨_, _, _, rfl, by rw [wrap_id (by omega) (by omega)]; omega, (a1 _).1, by have := (a1 (wrap64 ((Go.bits .and .i64 (Go.bits .xor .i64 ((wrap64 ((wrap64 (s * 6364136223846793005)) + 1442695040888963407)) / 8589934592) ((wrap64 ((wrap64 (s * 6364136223846793005)) + 1442695040888963407)) / 140737488355328)) 255) + (wrap64 (rd l p))))).2; exact Int.lt_of_le_of_lt this (by decide)⟩
  · rw [if_neg c]
    exact ⟨_, _, _, rfl, hp, (a1 _).1, Int.lt_of_le_of_lt (a1 _).2 (by decide)⟩
theorem dBelow (p s a : Int) (hp : 0 ≤ p) (h0 : 0 < a) (h1 : a ≤ 256) : ∃ v p' s', spec_l1Below.f l p s a = some (v, p', s') ∧ 0 ≤ p' ∧ 0 ≤ v ∧ v < a := by
  obtain ⟨v, p', s', e, q, v0, _⟩ := dByte l hl p s hp
  refine ⟨Int.tmod v a, p', s', ?_, q, Int.tmod_nonneg _ v0, Int.tmod_lt_of_pos _ h0⟩
  simp only [spec_l1Below.f]
  rw [if_neg (by omega), if_pos h1, e, Option.bind_some, if_neg (by omega)]
theorem dOnce (p s a : Int) (hp : 0 ≤ p) (h0 : 0 < a) (h1 : a ≤ 256) : ∃ v p' s', spec_l1Once.f l p s a = some (v, p', s') ∧ 0 ≤ p' := by
  obtain ⟨v, p', s', e, q, _, _⟩ := dBelow l hl p s a hp h0 h1
  exact ⟨v == 0, p', s', by simp only [spec_l1Once.f, e, Option.bind_some], q⟩
end
section
variable (l : List Int) (hl : l.length ≤ 1048576)
include hl
theorem dStr (p s : Int) (m : List ByteArray) (hp : 0 ≤ p) (h0 : 0 < m.length) (h1 : m.length ≤ 256) : ∃ v p' s', spec_l1Str.f l p s m = some (v, p', s') ∧ 0 ≤ p' ∧ v ∈ m := by
  obtain ⟨v, p', s', e, q, v0, v1⟩ := dBelow l hl p s (m.length : Int) hp (by omega) (by omega)
  refine ⟨rdOf ByteArray.empty m v, p', s', ?_, q, ?_⟩
  · simp only [spec_l1Str.f, e, Option.bind_some]
    rw [if_pos v0, if_pos v1]
  · show m.getD v.toNat _ ∈ m
    exact getD_mem m v.toNat _ (by omega)
theorem dInt (p s : Int) (m : List Int) (hp : 0 ≤ p) (h0 : 0 < m.length) (h1 : m.length ≤ 256) : ∃ v p' s', spec_l1Int.f l p s m = some (v, p', s') ∧ 0 ≤ p' ∧ v ∈ m := by
  obtain ⟨v, p', s', e, q, v0, v1⟩ := dBelow l hl p s (m.length : Int) hp (by omega) (by omega)
  refine ⟨rd m v, p', s', ?_, q, ?_⟩
  · simp only [spec_l1Int.f, e, Option.bind_some]
    rw [if_pos v0, if_pos v1]
  · show m.getD v.toNat _ ∈ m
    exact getD_mem m v.toNat _ (by omega)
/-- A short list of labels. -/
def ShortL (n : Nat) (x : List S99) : Prop := x.length ≤ n ∧ ∀ y ∈ x, WiLabel y
theorem dLabels_l0 (m : List ByteArray) (hm : ∀ v ∈ m, v.size ≤ 4000000) (hm2 : m.length ≤ 100) : ∀ (n i : Nat) (x : List S99) (p s : Int), 0 ≤ p → m.length ≤ i + n → x.length + n ≤ 100 → (∀ y ∈ x, WiLabel y) →
    ∃ r p' s', Ev (fun k => spec_l2Draw.l0 k x m (m.length : Int) (i : Int) l p s) (r, p', s') ∧ 0 ≤ p' ∧ ShortL (x.length + n) r ∧ x.length ≤ r.length
  | 0, i, x, p, s, hp, hi, hx, hw => ⟨x, p, s, ⟨1, fun k hk => by
    obtain ⟨k, rfl⟩ : ∃ j, k = j + 1 := ⟨k - 1, by omega⟩
    simp only [spec_l2Draw.l0]; rw [if_neg (by omega)]⟩, hp, ⟨by omega, hw⟩, Nat.le_refl _⟩
  | n + 1, i, x, p, s, hp, hi, hx, hw => by
    by_cases c : (i : Int) < (m.length : Int)
    · obtain ⟨v, p1, s1, e1, q1⟩ := dOnce l hl p s 4 hp (by decide) (by decide)
      cases v with
      | true =>
        obtain ⟨u, p2, s2, e2, q2, u2⟩ := dStr l hl p1 s1 [(⟨#[49]⟩ : ByteArray), (⟨#[50]⟩ : ByteArray)] q1 (by decide) (by decide)
        obtain ⟨r, p', s', ⟨K, g⟩, q, w, w2⟩ := dLabels_l0 m hm hm2 n (i + 1) (x ++ [(⟨rdOf ByteArray.empty m (i : Int), u⟩ : S99)]) p2 s2 q2 (by omega) (by simp only [List.length_append, List.length_singleton]; omega) (fun y hy => by
          rcases List.mem_append.1 hy with h | h
          · exact hw y h
          · rw [List.mem_singleton.1 h]
            refine ⟨hm _ ?_, ?_⟩
            · show m.getD (i : Int).toNat _ ∈ m
              exact getD_mem m _ _ (by omega)
            · exact (show ∀ v ∈ [(⟨#[49]⟩ : ByteArray), (⟨#[50]⟩ : ByteArray)], v.size ≤ 4000000 by decide) u u2)
        refine ⟨r, p', s', ⟨K + 1, fun k hk => ?_⟩, q, ⟨by have := w.1; simp only [List.length_append, List.length_singleton] at this; omega, w.2⟩, by simp only [List.length_append, List.length_singleton] at w2; omega⟩
        obtain ⟨k, rfl⟩ : ∃ j, k = j + 1 := ⟨k - 1, by omega⟩
        have e := g k (by omega)
        simp only at e
        simp only [spec_l2Draw.l0]
        rw [if_pos c, if_pos (by omega), if_pos c, e1]
        simp only [Option.bind_some, if_true]
        rw [e2]
        simp only [Option.bind_some]
        rw [if_pos (by omega), wrap_up i (by omega), e]
      | false =>
        obtain ⟨r, p', s', ⟨K, g⟩, q, w, w2⟩ := dLabels_l0 m hm hm2 n (i + 1) x p1 s1 q1 (by omega) (by omega) hw
        refine ⟨r, p', s', ⟨K + 1, fun k hk => ?_⟩, q, ⟨by have := w.1; omega, w.2⟩, w2⟩
        obtain ⟨k, rfl⟩ : ∃ j, k = j + 1 := ⟨k - 1, by omega⟩
        have e := g k (by omega)
        simp only at e
        simp only [spec_l2Draw.l0]
        rw [if_pos c, if_pos (by omega), if_pos c, e1]
        simp only [Option.bind_some, Bool.false_eq_true, if_false]
        rw [wrap_up i (by omega), e]
    · refine ⟨x, p, s, ⟨1, fun k hk => ?_⟩, hp, ⟨by omega, hw⟩, Nat.le_refl _⟩
      obtain ⟨k, rfl⟩ : ∃ j, k = j + 1 := ⟨k - 1, by omega⟩
      simp only [spec_l2Draw.l0]; rw [if_neg c]
theorem dLabels (p s : Int) (hp : 0 ≤ p) : ∃ r p' s', Ev (fun k => spec_l2Draw.f k l p s) (r, p', s') ∧ 0 ≤ p' ∧ ShortL 4 r ∧ 1 ≤ r.length := by
  obtain ⟨u, p1, s1, e1, q1, u1⟩ := dStr l hl p s [(⟨#[97]⟩ : ByteArray), (⟨#[98]⟩ : ByteArray), (⟨#[99]⟩ : ByteArray)] hp (by decide) (by decide)
  have hu := (show ∀ v ∈ [(⟨#[97]⟩ : ByteArray), (⟨#[98]⟩ : ByteArray), (⟨#[99]⟩ : ByteArray)], v.size ≤ 4000000 by decide) u u1
  obtain ⟨r, p', s', ⟨K, g⟩, q, w, w2⟩ := dLabels_l0 l hl [(⟨#[104, 111, 115, 116]⟩ : ByteArray), (⟨#[115, 101, 118]⟩ : ByteArray), (⟨#[122, 111, 110, 101]⟩ : ByteArray)] (by decide) (by decide) 3 0 [(⟨(⟨#[97, 112, 112]⟩ : ByteArray), u⟩ : S99)] p1 s1 q1 (by decide) (by simp only [List.length_singleton]; omega) (fun y hy => by
    rw [List.mem_singleton.1 hy]; exact ⟨(show (⟨#[97, 112, 112]⟩ : ByteArray).size ≤ 4000000 by decide), hu⟩)
  refine ⟨r, p', s', ⟨K, fun k hk => ?_⟩, q, w, w2⟩
  have e := g k hk
  simp only at e
  simp only [spec_l2Draw.f, e1, Option.bind_some]
  exact e
/-- A drawn alarm. -/
def ShortA (a : S29) : Prop := a.f0.length ≤ 100 ∧ WiAlarm a
omit hl in
theorem shortA_mk {n : Nat} {r : List S99} (b c : Int) {t : ByteArray} (h : ShortL n r) (hn : n ≤ 100) (ht : t.size ≤ 4000000) : ShortA ⟨r, b, c, t⟩ :=
  ⟨Nat.le_trans h.1 hn, ⟨⟨Nat.le_trans h.1 (Nat.le_trans hn (by decide)), h.2⟩, trivial, trivial, ht⟩⟩
omit hl in
theorem shortL_up {n m : Nat} {a : List S99} (h : ShortL n a) (hm : n ≤ m) : ShortL m a := ⟨Nat.le_trans h.1 hm, h.2⟩
end
theorem place_hit {α : Type} (p : α → Bool) (z : α) : ∀ (l : List α) (i : Nat), 0 ≤ place p l i → ∃ j : Nat, place p l i = ((i + j : Nat) : Int) ∧ j < l.length ∧ p (l.getD j z) = true ∧ ∀ m, m < j → p (l.getD m z) = false
  | [], i, h => by simp [place] at h
  | x :: l, i, h => by
    unfold place at h ⊢
    by_cases c : p x = true
    · rw [if_pos c] at h ⊢
      exact ⟨0, rfl, by simp, by simpa using c, fun m hm => by omega⟩
    · rw [if_neg c] at h ⊢
      obtain ⟨j, e, h1, h2, h3⟩ := place_hit p z l (i + 1) h
      refine ⟨j + 1, by rw [e]; omega, by simpa using h1, by simpa using h2, fun m hm => ?_⟩
      cases m with
      | zero => simpa using c
      | succ m => simpa using h3 m (by omega)
theorem place_is {α : Type} (p : α → Bool) (z : α) : ∀ (l : List α) (i j : Nat), j < l.length → p (l.getD j z) = true → (∀ m, m < j → p (l.getD m z) = false) → place p l i = ((i + j : Nat) : Int)
  | [], i, j, h, _, _ => by simp at h
  | x :: l, i, 0, h, hp, _ => by
    unfold place
    rw [if_pos (by simpa using hp)]; rfl
  | x :: l, i, j + 1, h, hp, hm => by
    unfold place
    have h0 := hm 0 (by omega)
    rw [if_neg (by simpa using h0), place_is p z l (i + 1) j (by simpa using h) (by simpa using hp) (fun m h => by simpa using hm (m + 1) (by omega))]
    omega
theorem place_no {α : Type} (p : α → Bool) (z : α) : ∀ (l : List α) (i : Nat), place p l i < 0 → ∀ m, m < l.length → p (l.getD m z) = false
  | [], i, _, m, hm => by simp at hm
  | x :: l, i, h, m, hm => by
    unfold place at h
    by_cases c : p x = true
    · rw [if_pos c] at h; omega
    · rw [if_neg c] at h
      cases m with
      | zero => simpa using c
      | succ m => simpa using place_no p z l (i + 1) h m (by simpa using hm)
theorem sameSet_self (a : List S99) : sameSet a a = true := by unfold sameSet; simp
/-- What was put into a chain is found there. -/
theorem putChain_at (c : S80) (a : S29) : ∃ j : Nat, labelsAt (putChain c a).1.f1 a.f0 = (j : Int) ∧ j < (putChain c a).1.f1.length ∧
    (if labelsAt c.f1 a.f0 ≥ 0 then (putChain c a).2 = false ∧ (putChain c a).1.f1.getD j z29 = mergeA (c.f1.getD (labelsAt c.f1 a.f0).toNat z29) a else (putChain c a).2 = true ∧ (putChain c a).1.f1.getD j z29 = a) := by
  by_cases h : labelsAt c.f1 a.f0 ≥ 0
  · obtain ⟨j, e, h1, h2, h3⟩ := place_hit (fun x => sameSet x.f0 a.f0) z29 c.f1 0 (by unfold labelsAt at h; omega)
    have e' : labelsAt c.f1 a.f0 = (j : Int) := by unfold labelsAt; rw [e]; omega
    have ep : putChain c a = (⟨c.f0, c.f1.set j (mergeA (c.f1.getD j z29) a)⟩, false) := by unfold putChain; rw [if_pos h, e']; rfl
    have hg : (c.f1.set j (mergeA (c.f1.getD j z29) a)).getD j z29 = mergeA (c.f1.getD j z29) a := by simp [List.getD_eq_getElem?_getD, h1]
    refine ⟨j, ?_, by rw [ep]; simpa using h1, ?_⟩
    · rw [ep]
      show place _ _ 0 = _
      rw [place_is (fun x => sameSet x.f0 a.f0) z29 _ 0 j (by simpa using h1) (by rw [hg]; show sameSet (mergeA _ a).f0 a.f0 = true; rw [mergeA_f0]; exact sameSet_self _) (fun m hm => by
        have : (c.f1.set j (mergeA (c.f1.getD j z29) a)).getD m z29 = c.f1.getD m z29 := by simp only [List.getD_eq_getElem?_getD]; rw [List.getElem?_set_ne (by omega)]
        rw [this]; exact h3 m hm)]
      omega
    · rw [if_pos h, ep, e']
      exact ⟨rfl, hg⟩
  · have ep : putChain c a = (⟨c.f0, c.f1 ++ [a]⟩, true) := by unfold putChain; rw [if_neg h]
    have hn := place_no (fun x => sameSet x.f0 a.f0) z29 c.f1 0 (by unfold labelsAt at h; omega)
    have hg : (c.f1 ++ [a]).getD c.f1.length z29 = a := by simp
    refine ⟨c.f1.length, ?_, by rw [ep]; simp only [List.length_append, List.length_singleton]; omega, ?_⟩
    · rw [ep]
      show place _ _ 0 = _
      rw [place_is (fun x => sameSet x.f0 a.f0) z29 _ 0 c.f1.length (by simp) (by rw [hg]; exact sameSet_self _) (fun m hm => by
        have : (c.f1 ++ [a]).getD m z29 = c.f1.getD m z29 := by simp only [List.getD_eq_getElem?_getD]; rw [List.getElem?_append_left hm]
        rw [this]; exact hn m hm)]
      omega
    · rw [if_neg h, ep]
      exact ⟨rfl, hg⟩
theorem insC_get (l : List S80) (f : Int) (a : S29) (i : Nat) (hi : i ≤ l.length) : (insC l f a i).getD i z80 = ⟨f, [a]⟩ ∧ ∀ m, m < i → (insC l f a i).getD m z80 = l.getD m z80 := by
  unfold insC
  have ht : (l.take i).length = i := by rw [List.length_take]; omega
  refine ⟨by simp [List.getD_eq_getElem?_getD, List.getElem?_append, ht], fun m hm => ?_⟩
  simp only [List.getD_eq_getElem?_getD, List.nil_append, List.append_assoc]
  rw [List.getElem?_append_left (by omega), List.getElem?_take_of_lt hm]
/-- What was put into a part is found there: as it is, or merged with what was there. -/
theorem putIn_found (p : S26) (a : S29) : (findIn (putIn p a).1 a.f0).2 = true ∧ (putIn p a).2 = !(findIn p a.f0).2 ∧
    (findIn (putIn p a).1 a.f0).1 = (if (findIn p a.f0).2 = true then mergeA (findIn p a.f0).1 a else a) := by
  by_cases h : chainAt p.f2 (fingerOf a.f0) ≥ 0
  · obtain ⟨j, e, h1, h2, h3⟩ := place_hit (fun c : S80 => decide (c.f0 = fingerOf a.f0)) z80 p.f2 0 (by unfold chainAt at h; omega)
    have e' : chainAt p.f2 (fingerOf a.f0) = (j : Int) := by unfold chainAt; rw [e]; omega
    have ep : putIn p a = (⟨p.f0, wrap64 (p.f1 + 1), p.f2.set j (putChain (p.f2.getD j z80) a).1⟩, (putChain (p.f2.getD j z80) a).2) := by
      unfold putIn; rw [if_pos h, e']; rfl
    have hg : (p.f2.set j (putChain (p.f2.getD j z80) a).1).getD j z80 = (putChain (p.f2.getD j z80) a).1 := by simp [List.getD_eq_getElem?_getD, h1]
    have hf : (putChain (p.f2.getD j z80) a).1.f0 = (p.f2.getD j z80).f0 := by unfold putChain; split <;> rfl
    have ec : chainAt (p.f2.set j (putChain (p.f2.getD j z80) a).1) (fingerOf a.f0) = (j : Int) := by
      unfold chainAt
      rw [place_is (fun c : S80 => decide (c.f0 = fingerOf a.f0)) z80 _ 0 j (by simpa using h1) (by rw [hg, hf]; exact h2) (fun m hm => by
        have : (p.f2.set j (putChain (p.f2.getD j z80) a).1).getD m z80 = p.f2.getD m z80 := by simp only [List.getD_eq_getElem?_getD]; rw [List.getElem?_set_ne (by omega)]
        rw [this]; exact h3 m hm)]
      omega
    obtain ⟨q, g1, g2, g3⟩ := putChain_at (p.f2.getD j z80) a
    have fx : findIn (putIn p a).1 a.f0 = ((putChain (p.f2.getD j z80) a).1.f1.getD q z29, true) := by
      unfold findIn
      rw [ep]
      simp only [ec]
      rw [if_neg (by omega), Int.toNat_natCast, hg, g1, if_neg (by omega), Int.toNat_natCast]
    have fp : findIn p a.f0 = if labelsAt (p.f2.getD j z80).f1 a.f0 < 0 then (z29, false) else ((p.f2.getD j z80).f1.getD (labelsAt (p.f2.getD j z80).f1 a.f0).toNat z29, true) := by
      unfold findIn
      simp only [e']
      rw [if_neg (by omega), Int.toNat_natCast]
    rw [fx, fp, ep]
    by_cases c : labelsAt (p.f2.getD j z80).f1 a.f0 ≥ 0
    · rw [if_pos c] at g3
      rw [if_neg (by omega)]
      exact ⟨rfl, g3.1, by simpa using g3.2⟩
    · rw [if_neg c] at g3
      rw [if_pos (by omega)]
      exact ⟨rfl, g3.1, by simpa using g3.2⟩
  · have ep : putIn p a = (⟨p.f0, wrap64 (p.f1 + 1), insC p.f2 (fingerOf a.f0) a (firstNot (fun c : S80 => decide (c.f0 < fingerOf a.f0)) p.f2)⟩, true) := by unfold putIn; rw [if_neg h]
    have hn := place_no (fun c : S80 => decide (c.f0 = fingerOf a.f0)) z80 p.f2 0 (by unfold chainAt at h; omega)
    have hle := firstNot_le (fun c : S80 => decide (c.f0 < fingerOf a.f0)) p.f2
    obtain ⟨i1, i2⟩ := insC_get p.f2 (fingerOf a.f0) a _ hle
    have fp : findIn p a.f0 = (z29, false) := by
      unfold findIn
      simp only
      rw [if_pos (by omega)]
    have ec : chainAt (insC p.f2 (fingerOf a.f0) a (firstNot (fun c : S80 => decide (c.f0 < fingerOf a.f0)) p.f2)) (fingerOf a.f0) = ((firstNot (fun c : S80 => decide (c.f0 < fingerOf a.f0)) p.f2 : Nat) : Int) := by
      unfold chainAt
      rw [place_is (fun c : S80 => decide (c.f0 = fingerOf a.f0)) z80 _ 0 (firstNot (fun c : S80 => decide (c.f0 < fingerOf a.f0)) p.f2) (by rw [insC_length]; omega) (by rw [i1]; simp) (fun m hm => by rw [i2 m hm]; exact hn m (by omega))]
      omega
    have el : labelsAt [a] a.f0 = 0 := by unfold labelsAt place; rw [if_pos (sameSet_self _)]; rfl
    have fx : findIn (putIn p a).1 a.f0 = (a, true) := by
      unfold findIn
      rw [ep]
      simp only [ec]
      rw [if_neg (by omega), Int.toNat_natCast, i1]
      simp only [el]
      rw [if_neg (by omega)]
      rfl
    rw [fx, fp, ep]
    exact ⟨rfl, rfl, by simp⟩
theorem ba_toList {a b : ByteArray} (h : a.toList = b.toList) : a = b := ba_ext (by rw [← ByteArray.toList_eq, ← ByteArray.toList_eq]; exact h)
theorem lab_inj {x y : S99} (h : lab x = lab y) : x = y := by
  cases x; cases y
  simp only [lab, Prod.mk.injEq] at h
  rw [ba_toList h.1, ba_toList h.2]
theorem labs_inj : ∀ {a b : List S99}, a.map lab = b.map lab → a = b
  | [], [], _ => rfl
  | [], _ :: _, h => by simp at h
  | _ :: _, [], h => by simp at h
  | x :: a, y :: b, h => by
    simp only [List.map_cons, List.cons.injEq] at h
    rw [lab_inj h.1, labs_inj h.2]
theorem sameSet_iff {a b : List S99} : sameSet a b = true ↔ a = b := ⟨fun h => labs_inj (of_decide_eq_true h), fun h => by rw [h]; exact sameSet_self b⟩
theorem sameSet_no {a b : List S99} : sameSet a b = false ↔ a ≠ b := by
  constructor
  · intro h e
    rw [sameSet_iff.2 e] at h; cases h
  · intro h
    cases e : sameSet a b with
    | false => rfl
    | true => exact absurd (sameSet_iff.1 e) h
/-- A chain that is right. -/
def OkC (c : S80) : Prop := c.f1 ≠ [] ∧ (∀ a ∈ c.f1, alarmOk a = true ∧ fingerOf a.f0 = c.f0) ∧ (c.f1.map (·.f0)).Nodup
/-- A part that is right, the i-th of n. -/
def OkP (i n : Int) (p : S26) : Prop := ((-1 ≤ p.f0 ∧ p.f0 ≤ 4) ∧ 0 ≤ p.f1) ∧ (∀ c ∈ p.f2, OkC c ∧ partOf c.f0 n = i) ∧ (p.f2.map (·.f0)).Pairwise (· < ·)
theorem bscan_true {p : Nat → Bool} : ∀ d i, (∀ j, i ≤ j → j < i + d → p j = true) → bscan p d i = true
  | 0, i, _ => rfl
  | d + 1, i, h => by
    rw [bscan_succ, h i (Nat.le_refl _) (by omega), bscan_true d (i + 1) (fun j h1 h2 => h j (by omega) (by omega))]; rfl
theorem nodup_get {α : Type} (z : α) : ∀ {l : List α} {i j : Nat}, l.Nodup → i < j → j < l.length → l.getD i z ≠ l.getD j z
  | x :: l, 0, j + 1, h, _, hj => by
    have h1 := (List.nodup_cons.1 h).1
    intro e
    apply h1
    simp only [List.getD_cons_zero, List.getD_cons_succ] at e
    rw [e]; exact getD_mem l j z (by simpa using hj)
  | x :: l, i + 1, j + 1, h, hij, hj => by
    simp only [List.getD_cons_succ]
    exact nodup_get z (List.nodup_cons.1 h).2 (by omega) (by simpa using hj)
theorem map_getD {α β : Type} (f : α → β) (z : α) (w : β) (l : List α) (i : Nat) (h : i < l.length) : (l.map f).getD i w = f (l.getD i z) := by simp [List.getD_eq_getElem?_getD, h]
theorem okC_is {c : S80} (h : OkC c) : chainOk c.f0 c.f1 = true := by
  obtain ⟨h0, h1, h2⟩ := h
  have hp : 0 < c.f1.length := List.length_pos_iff.2 h0
  unfold chainOk
  rw [decide_eq_true (show (c.f1.length : Int) > 0 by omega), bscan_true _ _ (fun j _ hj => ?_), bscan_true _ _ (fun j _ hj => ?_)]
  · rfl
  · have := h1 _ (getD_mem c.f1 j z29 (by omega))
    unfold cBit
    rw [this.1, decide_eq_true this.2]; rfl
  · show (!earlyA c.f1 j) = true
    have : earlyA c.f1 j = false := by
      unfold earlyA
      rw [List.any_eq_false]
      intro a ha
      obtain ⟨m, hm, e⟩ := List.mem_take_iff_getElem.1 ha
      have hm' : m < j ∧ m < c.f1.length := by omega
      have hn := nodup_get [] h2 (show m < j by omega) (by rw [List.length_map]; omega)
      rw [map_getD (·.f0) z29 [] _ _ (by omega), map_getD (·.f0) z29 [] _ _ (by omega)] at hn
      have eg : c.f1.getD m z29 = a := by rw [← e]; simp [List.getD_eq_getElem?_getD, hm'.2]
      rw [eg] at hn
      rw [Bool.not_eq_true, sameSet_no]
      exact hn
    rw [this]; rfl
theorem pair_get (l : List Int) (h : l.Pairwise (· < ·)) (z : Int) (i j : Nat) (hij : i < j) (hj : j < l.length) : l.getD i z < l.getD j z := by
  have := List.pairwise_iff_getElem.1 h i j (by omega) hj hij
  simpa [List.getD_eq_getElem?_getD, hj, show i < l.length by omega] using this
theorem okP_is {i n : Int} {p : S26} (h : OkP i n p) : partIs p i n = true := by
  obtain ⟨⟨⟨h0, h1⟩, h2⟩, h3, h4⟩ := h
  unfold partIs
  rw [decide_eq_true h0, decide_eq_true h1, decide_eq_true (show p.f1 ≥ 0 from h2), bscan_true _ _ (fun j _ hj => ?_)]
  · rfl
  · have hj' : j < p.f2.length := by omega
    obtain ⟨c1, c2⟩ := h3 _ (getD_mem p.f2 j z80 hj')
    unfold pBit
    rw [okC_is c1, decide_eq_true c2]
    by_cases hz : j = 0
    · simp [hz]
    · have := pair_get _ h4 0 (j - 1) j (by omega) (by rw [List.length_map]; exact hj')
      rw [map_getD (·.f0) z80 0 _ _ (by omega), map_getD (·.f0) z80 0 _ _ hj'] at this
      rw [decide_eq_true this]; simp
theorem alarmOk_parts {a : S29} : alarmOk a = true ↔ setOk a.f0 = true ∧ 0 < a.f0.length ∧ (0 ≤ a.f1 ∧ a.f1 ≤ 99999) ∧ (a.f1 ≤ a.f2 ∧ a.f2 ≤ 99999) ∧ plainOk a.f3 = true := by
  unfold alarmOk
  simp only [Bool.and_eq_true, decide_eq_true_eq, gt_iff_lt, Int.natCast_pos]
theorem mergeA_ok {a b : S29} (ha : alarmOk a = true) (hb : alarmOk b = true) : alarmOk (mergeA a b) = true := by
  obtain ⟨_, _, ⟨a1, a2⟩, _, _⟩ := alarmOk_parts.1 ha
  obtain ⟨b0, b1, ⟨b2, b3⟩, ⟨b4, b5⟩, b6⟩ := alarmOk_parts.1 hb
  unfold mergeA
  split
  · split
    · refine alarmOk_parts.2 ⟨b0, b1, ?_, ?_, b6⟩
      · show 0 ≤ mn a.f1 b.f1 ∧ mn a.f1 b.f1 ≤ 99999; unfold mn; split <;> omega
      · show mn a.f1 b.f1 ≤ b.f2 ∧ b.f2 ≤ 99999; unfold mn; split <;> omega
    · exact hb
  · exact hb
theorem set_same {α : Type} : ∀ {l : List α} {i : Nat} {x : α}, i < l.length → l.getD i x = x → l.set i x = l
  | y :: l, 0, x, _, e => by simp at e; simp [e]
  | y :: l, i + 1, x, h, e => by
    simp only [List.set_cons_succ]
    rw [set_same (by simpa using h) (by simpa using e)]
theorem labelsAt_pos {l : List S29} {s : List S99} (h : labelsAt l s ≥ 0) : ∃ j : Nat, labelsAt l s = (j : Int) ∧ j < l.length ∧ (l.getD j z29).f0 = s := by
  obtain ⟨j, e, h1, h2, _⟩ := place_hit (fun x => sameSet x.f0 s) z29 l 0 (by unfold labelsAt at h; omega)
  exact ⟨j, by unfold labelsAt; rw [e]; omega, h1, sameSet_iff.1 h2⟩
theorem labelsAt_no {l : List S29} {s : List S99} (h : ¬ labelsAt l s ≥ 0) : ∀ a ∈ l, a.f0 ≠ s := by
  intro a ha
  obtain ⟨m, hm, e⟩ := List.mem_iff_getElem.1 ha
  have := place_no (fun x => sameSet x.f0 s) z29 l 0 (by unfold labelsAt at h; omega) m hm
  rw [show l.getD m z29 = a by rw [← e]; simp [List.getD_eq_getElem?_getD, hm]] at this
  exact sameSet_no.1 this
theorem nodup_snoc {α : Type} {l : List α} {x : α} (h : l.Nodup) (hx : x ∉ l) : (l ++ [x]).Nodup := by
  rw [List.nodup_append]
  refine ⟨h, by simp, fun a ha b hb => ?_⟩
  rw [List.mem_singleton.1 hb]
  rintro rfl; exact hx ha
theorem putChain_ok {c : S80} {a : S29} (h : OkC c) (ha : alarmOk a = true) (hf : fingerOf a.f0 = c.f0) : OkC (putChain c a).1 := by
  obtain ⟨h0, h1, h2⟩ := h
  unfold putChain
  by_cases k : labelsAt c.f1 a.f0 ≥ 0
  · rw [if_pos k]
    obtain ⟨j, e, hj, es⟩ := labelsAt_pos k
    rw [e, Int.toNat_natCast]
    refine ⟨fun x => h0 (List.length_eq_zero_iff.1 (by have := congrArg List.length x; simpa using this)), fun y hy => ?_, ?_⟩
    · rcases List.mem_or_eq_of_mem_set hy with hy | rfl
      · exact h1 y hy
      · exact ⟨mergeA_ok (h1 _ (getD_mem c.f1 j z29 hj)).1 ha, by rw [mergeA_f0]; exact hf⟩
    · show ((c.f1.set j (mergeA (c.f1.getD j z29) a)).map (·.f0)).Nodup
      rw [List.map_set, mergeA_f0, set_same (by rw [List.length_map]; exact hj) (by rw [map_getD (·.f0) z29 a.f0 _ _ hj]; exact es)]
      exact h2
  · rw [if_neg k]
    refine ⟨by simp, fun y hy => ?_, ?_⟩
    · rcases List.mem_append.1 hy with hy | hy
      · exact h1 y hy
      · rw [List.mem_singleton.1 hy]; exact ⟨ha, hf⟩
    · show ((c.f1 ++ [a]).map (·.f0)).Nodup
      rw [List.map_append]
      refine nodup_snoc h2 (fun hx => ?_)
      obtain ⟨y, hy, e⟩ := List.mem_map.1 hx
      exact labelsAt_no k y hy e
theorem chainAt_pos {l : List S80} {f : Int} (h : chainAt l f ≥ 0) : ∃ j : Nat, chainAt l f = (j : Int) ∧ j < l.length ∧ (l.getD j z80).f0 = f := by
  obtain ⟨j, e, h1, h2, _⟩ := place_hit (fun c : S80 => decide (c.f0 = f)) z80 l 0 (by unfold chainAt at h; omega)
  exact ⟨j, by unfold chainAt; rw [e]; omega, h1, of_decide_eq_true h2⟩
theorem chainAt_no {l : List S80} {f : Int} (h : ¬ chainAt l f ≥ 0) : ∀ c ∈ l, c.f0 ≠ f := by
  intro c hc
  obtain ⟨m, hm, e⟩ := List.mem_iff_getElem.1 hc
  have := place_no (fun c : S80 => decide (c.f0 = f)) z80 l 0 (by unfold chainAt at h; omega) m hm
  rw [show l.getD m z80 = c by rw [← e]; simp [List.getD_eq_getElem?_getD, hm]] at this
  simpa using this
/-- Where a chain goes in: what is ahead is less, what is behind is more. -/
theorem firstNot_split (f : Int) : ∀ (l : List S80), (l.map (·.f0)).Pairwise (· < ·) → (∀ c ∈ l, c.f0 ≠ f) →
    (∀ c ∈ l.take (firstNot (fun c : S80 => decide (c.f0 < f)) l), c.f0 < f) ∧ (∀ c ∈ l.drop (firstNot (fun c : S80 => decide (c.f0 < f)) l), f < c.f0)
  | [], _, _ => by simp
  | x :: l, h, hn => by
    rw [List.map_cons, List.pairwise_cons] at h
    unfold firstNot
    by_cases c : x.f0 < f
    · rw [if_pos (decide_eq_true c)]
      obtain ⟨i1, i2⟩ := firstNot_split f l h.2 (fun c hc => hn c (List.mem_cons_of_mem _ hc))
      refine ⟨fun y hy => ?_, fun y hy => ?_⟩
      · rw [List.take_succ_cons] at hy
        rcases List.mem_cons.1 hy with rfl | hy
        · exact c
        · exact i1 y hy
      · rw [List.drop_succ_cons] at hy
        exact i2 y hy
    · rw [if_neg (by simpa using c)]
      refine ⟨fun y hy => by simp at hy, fun y hy => ?_⟩
      have hx := hn x List.mem_cons_self
      rw [List.drop_zero] at hy
      rcases List.mem_cons.1 hy with rfl | hy
      · omega
      · have := h.1 y.f0 (List.mem_map.2 ⟨y, hy, rfl⟩); omega
theorem putIn_ok {i n : Int} {p : S26} {a : S29} (h : OkP i n p) (hv : p.f1 ≤ 1000000) (ha : alarmOk a = true) (hi : partOf (fingerOf a.f0) n = i) : OkP i n (putIn p a).1 := by
  obtain ⟨⟨h0, h2⟩, h3, h4⟩ := h
  have hw : wrap64 (p.f1 + 1) = p.f1 + 1 := wrap_id (by omega) (by omega)
  unfold putIn
  by_cases k : chainAt p.f2 (fingerOf a.f0) ≥ 0
  · rw [if_pos k]
    obtain ⟨j, e, hj, es⟩ := chainAt_pos k
    rw [e, Int.toNat_natCast]
    have hc := h3 _ (getD_mem p.f2 j z80 hj)
    have hf : (putChain (p.f2.getD j z80) a).1.f0 = (p.f2.getD j z80).f0 := by unfold putChain; split <;> rfl
    refine ⟨⟨h0, by show 0 ≤ wrap64 _; omega⟩, fun y hy => ?_, ?_⟩
    · rcases List.mem_or_eq_of_mem_set hy with hy | rfl
      · exact h3 y hy
      · exact ⟨putChain_ok hc.1 ha es.symm, by rw [hf]; exact hc.2⟩
    · show ((p.f2.set j _).map (·.f0)).Pairwise _
      rw [List.map_set, hf, set_same (by rw [List.length_map]; exact hj) (by rw [map_getD (·.f0) z80 _ _ _ hj])]
      exact h4
  · rw [if_neg k]
    obtain ⟨s1, s2⟩ := firstNot_split (fingerOf a.f0) p.f2 h4 (chainAt_no k)
    have hsp : (p.f2.map (·.f0)) = (p.f2.take (firstNot (fun c : S80 => decide (c.f0 < fingerOf a.f0)) p.f2)).map (·.f0) ++ (p.f2.drop (firstNot (fun c : S80 => decide (c.f0 < fingerOf a.f0)) p.f2)).map (·.f0) := by rw [← List.map_append, List.take_append_drop]
    rw [hsp, List.pairwise_append] at h4
    refine ⟨⟨h0, by show 0 ≤ wrap64 _; omega⟩, fun y hy => ?_, ?_⟩
    · rcases insC_mem hy with hy | rfl
      · exact h3 y hy
      · refine ⟨⟨by simp, fun z hz => ?_, by simp⟩, hi⟩
        rw [List.mem_singleton.1 hz]; exact ⟨ha, rfl⟩
    · show ((insC p.f2 (fingerOf a.f0) a _).map (·.f0)).Pairwise _
      unfold insC
      simp only [List.nil_append, List.map_append, List.map_cons, List.map_nil, List.append_assoc, List.singleton_append]
      rw [List.pairwise_append]
      refine ⟨h4.1, List.pairwise_cons.2 ⟨fun x hx => ?_, h4.2.1⟩, fun x hx y hy => ?_⟩
      · obtain ⟨c, hc, rfl⟩ := List.mem_map.1 hx
        exact s2 c hc
      · obtain ⟨c, hc, rfl⟩ := List.mem_map.1 hx
        rcases List.mem_cons.1 hy with rfl | hy
        · exact s1 c hc
        · exact h4.2.2 _ hx _ hy
/-- A drawn chain, of so many alarms at most. -/
def ShortC (m : Nat) (c : S80) : Prop := c.f1.length ≤ m ∧ ∀ y ∈ c.f1, ShortA y
theorem shortC_up {m n : Nat} {c : S80} (h : ShortC m c) (hm : m ≤ n) : ShortC n c := ⟨Nat.le_trans h.1 hm, h.2⟩
theorem shortC_wi {m : Nat} {c : S80} (h : ShortC m c) (hm : m ≤ 1000) : WiChain c := ⟨trivial, Nat.le_trans h.1 (Nat.le_trans hm (by decide)), fun y hy => (h.2 y hy).2⟩
theorem mergeA_short {a b : S29} (h : ShortA b) : ShortA (mergeA a b) := ⟨by rw [mergeA_f0]; exact h.1, mergeA_wi h.2⟩
theorem putChain_short {m : Nat} {c : S80} {a : S29} (h : ShortC m c) (ha : ShortA a) : ShortC (m + 1) (putChain c a).1 := by
  unfold putChain
  split
  · refine ⟨by show (List.set _ _ _).length ≤ _; rw [List.length_set]; exact Nat.le_trans h.1 (Nat.le_succ _), fun y hy => ?_⟩
    rcases List.mem_or_eq_of_mem_set hy with hy | rfl
    · exact h.2 y hy
    · exact mergeA_short ha
  · refine ⟨by show (_ ++ [_]).length ≤ _; rw [List.length_append, List.length_singleton]; exact Nat.succ_le_succ h.1, fun y hy => ?_⟩
    rcases List.mem_append.1 hy with hy | hy
    · exact h.2 y hy
    · rw [List.mem_singleton.1 hy]; exact ha
/-- A drawn part, of so many chains at most. -/
def ShortP (m : Nat) (p : S26) : Prop := (-1 ≤ p.f1 ∧ p.f1 ≤ m) ∧ p.f2.length ≤ m ∧ ∀ c ∈ p.f2, ShortC m c
theorem shortP_up {m n : Nat} {p : S26} (h : ShortP m p) (hm : m ≤ n) : ShortP n p := ⟨⟨h.1.1, by have := h.1.2; omega⟩, Nat.le_trans h.2.1 hm, fun c hc => shortC_up (h.2.2 c hc) hm⟩
theorem shortP_wi {m : Nat} {p : S26} (h : ShortP m p) (hm : m ≤ 1000) : WiPart p := ⟨trivial, trivial, Nat.le_trans h.2.1 (Nat.le_trans hm (by decide)), fun c hc => shortC_wi (h.2.2 c hc) hm⟩
theorem putIn_short {m : Nat} {p : S26} {a : S29} (hm : m ≤ 1000) (h : ShortP m p) (ha : ShortA a) : ShortP (m + 1) (putIn p a).1 := by
  have hlt := chainAt_end p.f2 (fingerOf a.f0)
  have h1 := h.1
  have hw : wrap64 (p.f1 + 1) = p.f1 + 1 := wrap_id (by omega) (by omega)
  unfold putIn
  by_cases c : chainAt p.f2 (fingerOf a.f0) ≥ 0
  · rw [if_pos c]
    refine ⟨⟨by show -1 ≤ wrap64 _; omega, by show wrap64 _ ≤ _; omega⟩, by show (List.set _ _ _).length ≤ _; rw [List.length_set]; exact Nat.le_trans h.2.1 (Nat.le_succ _), fun y hy => ?_⟩
    rcases List.mem_or_eq_of_mem_set hy with hy | rfl
    · exact shortC_up (h.2.2 y hy) (Nat.le_succ _)
    · exact putChain_short (h.2.2 _ (getD_mem p.f2 (chainAt p.f2 (fingerOf a.f0)).toNat z80 (by have := hlt c; omega))) ha
  · rw [if_neg c]
    refine ⟨⟨by show -1 ≤ wrap64 _; omega, by show wrap64 _ ≤ _; omega⟩, by show (insC _ _ _ _).length ≤ _; rw [insC_length]; exact Nat.succ_le_succ h.2.1, fun y hy => ?_⟩
    rcases insC_mem hy with hy | rfl
    · exact shortC_up (h.2.2 y hy) (Nat.le_succ _)
    · refine ⟨by show (1 : Nat) ≤ _; omega, fun z hz => ?_⟩
      rw [List.mem_singleton.1 hz]; exact ha
theorem inC_len {m : Nat} : ∀ {l : List S80}, (∀ c ∈ l, ShortC m c) → (inC l).length ≤ l.length * m
  | [], _ => by simp [inC]
  | c :: l, h => by
    have h1 := inC_len (fun x hx => h x (List.mem_cons_of_mem _ hx))
    have h2 := (h c List.mem_cons_self).1
    simp only [inC, List.length_append, List.length_cons, Nat.add_mul, Nat.one_mul]; omega
theorem inC_short {m : Nat} {l : List S80} (h : ∀ c ∈ l, ShortC m c) : ∀ y ∈ inC l, ShortA y := fun y hy => by
  obtain ⟨c, hc, hy⟩ := inC_mem hy; exact (h c hc).2 y hy
section
variable (l : List Int) (hl : l.length ≤ 1048576)
include hl
theorem dBelowAny (p s a : Int) (hp : 0 ≤ p) (h0 : 0 < a) : ∃ v p' s', spec_l1Below.f l p s a = some (v, p', s') ∧ 0 ≤ p' ∧ 0 ≤ v ∧ v < a := by
  by_cases h1 : a ≤ 256
  · exact dBelow l hl p s a hp h0 h1
  · obtain ⟨v1, p1, s1, e1, q1, a1, b1⟩ := dByte l hl p s hp
    obtain ⟨v2, p2, s2, e2, q2, a2, b2⟩ := dByte l hl p1 s1 q1
    obtain ⟨v3, p3, s3, e3, q3, a3, b3⟩ := dByte l hl p2 s2 q2
    have w1 : wrap64 (v1 * 65536) = v1 * 65536 := wrap_id (by omega) (by omega)
    have w2 : wrap64 (v2 * 256) = v2 * 256 := wrap_id (by omega) (by omega)
    have w3 : wrap64 (v1 * 65536 + v2 * 256) = v1 * 65536 + v2 * 256 := wrap_id (by omega) (by omega)
    have w4 : wrap64 (v1 * 65536 + v2 * 256 + v3) = v1 * 65536 + v2 * 256 + v3 := wrap_id (by omega) (by omega)
    refine ⟨Int.tmod (v1 * 65536 + v2 * 256 + v3) a, p3, s3, ?_, q3, Int.tmod_nonneg _ (by omega), Int.tmod_lt_of_pos _ h0⟩
    simp only [spec_l1Below.f]
    rw [if_neg (by omega), if_neg h1, e1, Option.bind_some, e2, Option.bind_some, e3, Option.bind_some, if_neg (by omega), w1, w2, w3, w4]
end
/-- A store that is right. -/
def OkS (l : List S26) : Prop := (1 ≤ l.length ∧ l.length ≤ 3) ∧ ∀ i, i < l.length → OkP (i : Int) (l.length : Int) (l.getD i z26)
theorem okS_is {l : List S26} (h : OkS l) : storeIs l = true := by
  unfold storeIs
  rw [decide_eq_true (show 1 ≤ (l.length : Int) by have := h.1.1; omega), decide_eq_true (show (l.length : Int) ≤ 3 by have := h.1.2; omega), bscan_true _ _ (fun j _ hj => ?_)]
  · rfl
  · unfold sBit
    exact okP_is (h.2 j (by omega))
theorem home_nat {l : List S26} (s : List S99) (h : 1 ≤ l.length) : ∃ j : Nat, homeOf l s = (j : Int) ∧ j < l.length := by
  obtain ⟨a, b⟩ := homeOf_range l s (by omega)
  exact ⟨(homeOf l s).toNat, by omega, by omega⟩
theorem putAlarm_is {l : List S26} {a : S29} {j : Nat} (h : 1 ≤ l.length) (e : homeOf l a.f0 = (j : Int)) : putAlarm l a = (l.set j (putIn (l.getD j z26) a).1, (putIn (l.getD j z26) a).2) := by
  unfold putAlarm
  rw [if_neg (by omega), e, Int.toNat_natCast]
theorem getD_set_same {α : Type} (z : α) {l : List α} {j : Nat} (x : α) (h : j < l.length) : (l.set j x).getD j z = x := by simp [List.getD_eq_getElem?_getD, h]
theorem getD_set_other {α : Type} (z : α) {l : List α} {i j : Nat} (x : α) (h : j ≠ i) : (l.set j x).getD i z = l.getD i z := by
  simp only [List.getD_eq_getElem?_getD]; rw [List.getElem?_set_ne h]
theorem putAlarm_ok {l : List S26} {a : S29} (h : OkS l) (hv : ∀ p ∈ l, p.f1 ≤ 1000000) (ha : alarmOk a = true) : OkS (putAlarm l a).1 := by
  obtain ⟨j, e, hj⟩ := home_nat a.f0 h.1.1
  rw [putAlarm_is h.1.1 e]
  refine ⟨by rw [List.length_set]; exact h.1, fun i hi => ?_⟩
  rw [List.length_set] at hi ⊢
  by_cases c : j = i
  · subst c
    rw [getD_set_same z26 _ hj]
    exact putIn_ok (h.2 j hj) (hv _ (getD_mem l j z26 hj)) ha (by unfold homeOf at e; exact e)
  · rw [getD_set_other z26 _ c]
    exact h.2 i hi
theorem findAlarm_is {l : List S26} {s : List S99} {j : Nat} (h : 1 ≤ l.length) (e : homeOf l s = (j : Int)) : findAlarm l s = findIn (l.getD j z26) s := by
  unfold findAlarm
  rw [if_neg (by omega), e, Int.toNat_natCast]
theorem putAlarm_found {l : List S26} (a : S29) (h : 1 ≤ l.length) : (findAlarm (putAlarm l a).1 a.f0).2 = true ∧ (putAlarm l a).2 = !(findAlarm l a.f0).2 ∧
    (findAlarm (putAlarm l a).1 a.f0).1 = (if (findAlarm l a.f0).2 = true then mergeA (findAlarm l a.f0).1 a else a) := by
  obtain ⟨j, e, hj⟩ := home_nat a.f0 h
  have e2 : homeOf (putAlarm l a).1 a.f0 = (j : Int) := by rw [putAlarm_is h e, ← e]; unfold homeOf; rw [List.length_set]
  have hl : 1 ≤ (putAlarm l a).1.length := by rw [putAlarm_is h e, List.length_set]; exact h
  rw [findAlarm_is h e, findAlarm_is hl e2, putAlarm_is h e, getD_set_same z26 _ hj]
  exact putIn_found _ a
theorem nodup_map_inj {α β : Type} (f : α → β) : ∀ {l : List α}, (l.map f).Nodup → ∀ {x y : α}, x ∈ l → y ∈ l → f x = f y → x = y
  | [], _, x, y, hx, _, _ => by cases hx
  | z :: l, h, x, y, hx, hy, e => by
    rw [List.map_cons, List.nodup_cons] at h
    rcases List.mem_cons.1 hx with rfl | hx'
    · rcases List.mem_cons.1 hy with rfl | hy'
      · rfl
      · exact absurd (List.mem_map.2 ⟨y, hy', e.symm⟩) h.1
    · rcases List.mem_cons.1 hy with rfl | hy'
      · exact absurd (List.mem_map.2 ⟨x, hx', e⟩) h.1
      · exact nodup_map_inj f h.2 hx' hy' e
theorem lt_nodup {l : List Int} (h : l.Pairwise (· < ·)) : l.Nodup := h.imp (fun h e => by omega)
theorem labelsAt_in {c : S80} (h : OkC c) {y : S29} (hy : y ∈ c.f1) : ∃ j : Nat, labelsAt c.f1 y.f0 = (j : Int) ∧ c.f1.getD j z29 = y := by
  by_cases k : labelsAt c.f1 y.f0 ≥ 0
  · obtain ⟨j, e, hj, es⟩ := labelsAt_pos k
    exact ⟨j, e, nodup_map_inj (·.f0) h.2.2 (getD_mem c.f1 j z29 hj) hy es⟩
  · exact absurd rfl (labelsAt_no k y hy)
theorem findIn_in {i n : Int} {p : S26} (h : OkP i n p) {y : S29} (hy : y ∈ inC p.f2) : findIn p y.f0 = (y, true) ∧ partOf (fingerOf y.f0) n = i := by
  obtain ⟨c, hc, hy⟩ := inC_mem hy
  obtain ⟨k1, k2⟩ := h.2.1 c hc
  have hf := (k1.2.1 y hy).2
  refine ⟨?_, by rw [hf]; exact k2⟩
  by_cases k : chainAt p.f2 (fingerOf y.f0) ≥ 0
  · obtain ⟨j, e, hj, es⟩ := chainAt_pos k
    have ec : p.f2.getD j z80 = c := nodup_map_inj (·.f0) (lt_nodup h.2.2) (getD_mem p.f2 j z80 hj) hc (by rw [es, hf])
    obtain ⟨q, e1, e2⟩ := labelsAt_in k1 hy
    unfold findIn
    simp only [e]
    rw [if_neg (by omega), Int.toNat_natCast, ec, e1, if_neg (by omega), Int.toNat_natCast, e2]
  · exact absurd hf.symm (chainAt_no k c hc)
theorem find_in {l : List S26} (h : OkS l) {y : S29} (hy : y ∈ inS l) : findAlarm l y.f0 = (y, true) := by
  obtain ⟨p, hp, hy⟩ := inS_mem hy
  obtain ⟨i, hi, e⟩ := List.mem_iff_getElem.1 hp
  have ep : l.getD i z26 = p := by rw [← e]; simp [List.getD_eq_getElem?_getD, hi]
  have hk := h.2 i hi
  rw [ep] at hk
  obtain ⟨f1, f2⟩ := findIn_in hk hy
  rw [findAlarm_is (j := i) h.1.1 f2, ep, f1]
theorem inC_nodup : ∀ {l : List S80}, (∀ c ∈ l, OkC c) → (l.map (·.f0)).Pairwise (· < ·) → ((inC l).map (·.f0)).Nodup
  | [], _, _ => by simp [inC]
  | c :: l, h, hp => by
    rw [List.map_cons, List.pairwise_cons] at hp
    show ((c.f1 ++ inC l).map (·.f0)).Nodup
    rw [List.map_append, List.nodup_append]
    refine ⟨(h c List.mem_cons_self).2.2, inC_nodup (fun d hd => h d (List.mem_cons_of_mem _ hd)) hp.2, fun s hs t ht e => ?_⟩
    obtain ⟨x, hx, rfl⟩ := List.mem_map.1 hs
    obtain ⟨y, hy, rfl⟩ := List.mem_map.1 ht
    obtain ⟨d, hd, hy⟩ := inC_mem hy
    have h1 := ((h c List.mem_cons_self).2.1 x hx).2
    have h2 := ((h d (List.mem_cons_of_mem _ hd)).2.1 y hy).2
    have h3 := hp.1 d.f0 (List.mem_map.2 ⟨d, hd, rfl⟩)
    have e' : fingerOf x.f0 = fingerOf y.f0 := congrArg fingerOf e
    omega
theorem inS_nodup (n : Int) : ∀ (l : List S26) (i : Nat), (∀ j, j < l.length → OkP ((i + j : Nat) : Int) n (l.getD j z26)) → ((inS l).map (·.f0)).Nodup
  | [], _, _ => by simp [inS]
  | p :: l, i, h => by
    have h0 := h 0 (by simp)
    simp only [Nat.add_zero, List.getD_cons_zero] at h0
    have hr : ∀ j, j < l.length → OkP ((i + 1 + j : Nat) : Int) n (l.getD j z26) := fun j hj => by
      have := h (j + 1) (by simpa using hj)
      simp only [List.getD_cons_succ] at this
      rwa [show i + 1 + j = i + (j + 1) by omega]
    show ((inC p.f2 ++ inS l).map (·.f0)).Nodup
    rw [List.map_append, List.nodup_append]
    refine ⟨inC_nodup (fun c hc => (h0.2.1 c hc).1) h0.2.2, inS_nodup n l (i + 1) hr, fun s hs t ht e => ?_⟩
    obtain ⟨x, hx, rfl⟩ := List.mem_map.1 hs
    obtain ⟨y, hy, rfl⟩ := List.mem_map.1 ht
    obtain ⟨q, hq, hy⟩ := inS_mem hy
    obtain ⟨j, hj, eq⟩ := List.mem_iff_getElem.1 hq
    have ep : l.getD j z26 = q := by rw [← eq]; simp [List.getD_eq_getElem?_getD, hj]
    have hk := hr j hj
    rw [ep] at hk
    have f1 := (findIn_in h0 hx).2
    have f2 := (findIn_in hk hy).2
    have e' : fingerOf x.f0 = fingerOf y.f0 := congrArg fingerOf e
    rw [e', f2] at f1
    omega
theorem flatL_inj : ∀ {a b : List S99}, flatL a = flatL b → a = b
  | [], [], _ => rfl
  | [], _ :: _, h => by simp [flatL] at h
  | _ :: _, [], h => by simp [flatL] at h
  | x :: a, y :: b, h => by
    simp only [flatL, List.cons.injEq] at h
    obtain ⟨h1, h2, h3⟩ := h
    have : x = y := lab_inj (by unfold lab; rw [h1, h2])
    rw [this, flatL_inj h3]
theorem altA_total {x y : S29} (h : x.f0 ≠ y.f0) : altA x y = true ∨ altA y x = true := by
  simp only [altA, setLess_dec, decide_eq_true_eq]
  by_cases h1 : flatL x.f0 < flatL y.f0
  · exact .inl h1
  · by_cases h2 : flatL y.f0 < flatL x.f0
    · exact .inr h2
    · exact absurd (flatL_inj (List.le_antisymm (List.not_lt.1 h2) (List.not_lt.1 h1))) h
theorem insR_strict (x : S29) : ∀ r : List S29, r.Pairwise (fun a b => altA b a = true) → (∀ y ∈ r, x.f0 ≠ y.f0) → (insR altA x r).Pairwise (fun a b => altA b a = true)
  | [], _, _ => by simp [insR]
  | y :: r, h, hn => by
    obtain ⟨h1, h2⟩ := List.pairwise_cons.1 h
    unfold insR
    by_cases c : altA x y = true
    · rw [if_pos c]
      refine List.pairwise_cons.2 ⟨fun z hz => ?_, insR_strict x r h2 (fun z hz => hn z (List.mem_cons_of_mem _ hz))⟩
      rcases insR_mem.1 hz with rfl | hz
      · exact c
      · exact h1 z hz
    · rw [if_neg c]
      have hy := (altA_total (hn y List.mem_cons_self)).resolve_left c
      refine List.pairwise_cons.2 ⟨fun z hz => ?_, h⟩
      rcases List.mem_cons.1 hz with rfl | hz
      · exact hy
      · exact swo_altA.trans _ _ _ (h1 z hz) hy
theorem sortE_strict : ∀ (l out : List S29), out.Pairwise (fun a b => altA a b = true) → ((out ++ l).map (·.f0)).Nodup → (sortE altA out l).Pairwise (fun a b => altA a b = true)
  | [], out, h, _ => h
  | x :: l, out, h, hn => by
    rw [List.map_append, List.map_cons, List.nodup_append, List.nodup_cons] at hn
    obtain ⟨n1, ⟨n2, n3⟩, n4⟩ := hn
    have hx : ∀ y ∈ out, x.f0 ≠ y.f0 := fun y hy e => n4 y.f0 (List.mem_map.2 ⟨y, hy, rfl⟩) x.f0 List.mem_cons_self e.symm
    refine sortE_strict l (insE altA x out) ?_ ?_
    · unfold insE; rw [List.pairwise_reverse]; exact insR_strict x _ (by rw [List.pairwise_reverse]; exact h) (fun y hy => hx y (List.mem_reverse.1 hy))
    · have hi : (insE altA x out).Perm (x :: out) := by
        unfold insE
        refine (List.reverse_perm _).trans ?_
        have : ∀ r : List S29, (insR altA x r).Perm (x :: r) := fun r => by
          induction r with
          | nil => exact List.Perm.refl _
          | cons y r ih =>
            unfold insR
            split
            · exact (List.Perm.cons y ih).trans (List.Perm.swap x y r)
            · exact List.Perm.refl _
        exact (this _).trans (List.Perm.cons x (List.reverse_perm _))
      rw [List.map_append, List.nodup_append]
      refine ⟨(List.Perm.nodup_iff (hi.map _)).2 (by rw [List.map_cons, List.nodup_cons]; exact ⟨fun hm => by obtain ⟨y, hy, e⟩ := List.mem_map.1 hm; exact hx y hy e.symm, n1⟩), n3, fun s hs t ht e => ?_⟩
      have hs' := (hi.map (·.f0)).mem_iff.1 hs
      rw [List.map_cons, List.mem_cons] at hs'
      rcases hs' with rfl | hs'
      · exact n2 (e ▸ ht)
      · exact n4 s hs' t (List.mem_cons_of_mem _ ht) e
theorem allA_strict {l : List S26} (h : OkS l) : (allA l).Pairwise (fun a b => altA a b = true) :=
  sortE_strict (inS l) [] List.Pairwise.nil (by rw [List.nil_append]; exact inS_nodup (l.length : Int) l 0 (fun j hj => by rw [Nat.zero_add]; exact h.2 j hj))
theorem inC_app : ∀ x y : List S80, inC (x ++ y) = inC x ++ inC y
  | [], y => rfl
  | c :: x, y => by show c.f1 ++ inC (x ++ y) = (c.f1 ++ inC x) ++ inC y; rw [inC_app x y, List.append_assoc]
theorem inC_set : ∀ (l : List S80) (j : Nat) (c : S80), j < l.length → (inC (l.set j c)).length + (l.getD j z80).f1.length = (inC l).length + c.f1.length
  | d :: l, 0, c, _ => by show (c.f1 ++ inC l).length + d.f1.length = (d.f1 ++ inC l).length + c.f1.length; simp only [List.length_append]; omega
  | d :: l, j + 1, c, h => by
    have := inC_set l j c (by simpa using h)
    show (d.f1 ++ inC (l.set j c)).length + (l.getD j z80).f1.length = (d.f1 ++ inC l).length + c.f1.length
    simp only [List.length_append]; omega
theorem inS_set : ∀ (l : List S26) (j : Nat) (p : S26), j < l.length → (inS (l.set j p)).length + (inC (l.getD j z26).f2).length = (inS l).length + (inC p.f2).length
  | d :: l, 0, p, _ => by show (inC p.f2 ++ inS l).length + (inC d.f2).length = (inC d.f2 ++ inS l).length + (inC p.f2).length; simp only [List.length_append]; omega
  | d :: l, j + 1, p, h => by
    have := inS_set l j p (by simpa using h)
    show (inC d.f2 ++ inS (l.set j p)).length + (inC (l.getD j z26).f2).length = (inC d.f2 ++ inS l).length + (inC p.f2).length
    simp only [List.length_append]; omega
theorem putIn_count (p : S26) (a : S29) : (inC (putIn p a).1.f2).length = (inC p.f2).length + (if (putIn p a).2 = true then 1 else 0) := by
  unfold putIn
  by_cases k : chainAt p.f2 (fingerOf a.f0) ≥ 0
  · rw [if_pos k]
    obtain ⟨j, e, hj, es⟩ := chainAt_pos k
    rw [e, Int.toNat_natCast]
    have h1 := inC_set p.f2 j (putChain (p.f2.getD j z80) a).1 hj
    have h2 : (putChain (p.f2.getD j z80) a).1.f1.length = (p.f2.getD j z80).f1.length + (if (putChain (p.f2.getD j z80) a).2 = true then 1 else 0) := by
      unfold putChain
      split
      · show (List.set _ _ _).length = _; rw [List.length_set]; rfl
      · show (_ ++ [a]).length = _; rw [List.length_append, List.length_singleton]; rfl
    show (inC (p.f2.set j _)).length = _ + (if (putChain (p.f2.getD j z80) a).2 = true then 1 else 0)
    omega
  · rw [if_neg k]
    show (inC (insC p.f2 (fingerOf a.f0) a _)).length = _ + 1
    have hs : (inC p.f2).length = (inC (p.f2.take (firstNot (fun c : S80 => decide (c.f0 < fingerOf a.f0)) p.f2))).length + (inC (p.f2.drop (firstNot (fun c : S80 => decide (c.f0 < fingerOf a.f0)) p.f2))).length := by rw [← List.length_append, ← inC_app, List.take_append_drop]
    unfold insC
    rw [List.nil_append, inC_app, inC_app, List.length_append, List.length_append, hs]
    show _ + ([a] ++ []).length + _ = _
    simp only [List.append_nil, List.length_singleton]; omega
theorem putAlarm_count {l : List S26} (a : S29) (h : 1 ≤ l.length) : (inS (putAlarm l a).1).length = (inS l).length + (if (putAlarm l a).2 = true then 1 else 0) := by
  obtain ⟨j, e, hj⟩ := home_nat a.f0 h
  rw [putAlarm_is h e]
  have h1 := inS_set l j (putIn (l.getD j z26) a).1 hj
  have h2 := putIn_count (l.getD j z26) a
  show (inS (l.set j _)).length = _ + (if (putIn (l.getD j z26) a).2 = true then 1 else 0)
  omega
theorem cntC_is : ∀ (cs : List S80) (acc : Int), 0 ≤ acc → acc + (inC cs).length ≤ 1000000000 → cntC acc cs = acc + (inC cs).length
  | [], acc, _, _ => by simp [cntC, inC]
  | c :: cs, acc, h0, h => by
    have hl : (inC (c :: cs)).length = c.f1.length + (inC cs).length := by show (c.f1 ++ inC cs).length = _; rw [List.length_append]
    rw [hl] at h ⊢
    show cntC (wrap64 (acc + c.f1.length)) cs = _
    rw [wrap_id (by omega) (by omega), cntC_is cs _ (by omega) (by omega)]
    omega
theorem cntP_is : ∀ (ps : List S26) (acc : Int), 0 ≤ acc → acc + (inS ps).length ≤ 1000000000 → cntP acc ps = acc + (inS ps).length
  | [], acc, _, _ => by simp [cntP, inS]
  | p :: ps, acc, h0, h => by
    have hl : (inS (p :: ps)).length = (inC p.f2).length + (inS ps).length := by show (inC p.f2 ++ inS ps).length = _; rw [List.length_append]
    rw [hl] at h ⊢
    show cntP (cntC acc p.f2) ps = _
    rw [cntC_is p.f2 acc h0 (by omega), cntP_is ps _ (by omega) (by omega)]
    omega
/-- A drawn store. -/
def ShortS (m : Nat) (l : List S26) : Prop := l.length ≤ 3 ∧ ∀ p ∈ l, ShortP m p
theorem shortS_wi {m : Nat} {l : List S26} (h : ShortS m l) (hm : m ≤ 1000) : l.length ≤ 4000000 ∧ ∀ y ∈ l, WiPart y := ⟨Nat.le_trans h.1 (by decide), fun p hp => shortP_wi (h.2 p hp) hm⟩
theorem putAlarm_short {m : Nat} {l : List S26} {a : S29} (hm : m ≤ 1000) (h : ShortS m l) (h1 : 1 ≤ l.length) (ha : ShortA a) : ShortS (m + 1) (putAlarm l a).1 := by
  obtain ⟨j, e, hj⟩ := home_nat a.f0 h1
  rw [putAlarm_is h1 e]
  refine ⟨by rw [List.length_set]; exact h.1, fun p hp => ?_⟩
  rcases List.mem_or_eq_of_mem_set hp with hp | rfl
  · exact shortP_up (h.2 p hp) (Nat.le_succ _)
  · exact putIn_short hm (h.2 _ (getD_mem l j z26 hj)) ha
theorem inS_len {m : Nat} : ∀ {l : List S26}, (∀ p ∈ l, ShortP m p) → (inS l).length ≤ l.length * (m * m)
  | [], _ => by simp [inS]
  | p :: l, h => by
    have h1 := inS_len (fun x hx => h x (List.mem_cons_of_mem _ hx))
    have h2 := h p List.mem_cons_self
    have h3 := inC_len h2.2.2
    have h4 := Nat.mul_le_mul_right m h2.2.1
    show (inC p.f2 ++ inS l).length ≤ _
    simp only [List.length_append, List.length_cons, Nat.add_mul, Nat.one_mul]; omega
theorem shortS_in {m : Nat} {l : List S26} (h : ShortS m l) (hm : m ≤ 1000) : (inS l).length ≤ 3000000 ∧ ∀ y ∈ inS l, ShortA y := by
  refine ⟨Nat.le_trans (inS_len h.2) (Nat.le_trans (Nat.mul_le_mul h.1 (Nat.mul_le_mul hm hm)) (by decide)), fun y hy => ?_⟩
  obtain ⟨p, hp, hy⟩ := inS_mem hy
  exact inC_short (h.2 p hp).2.2 y hy
section
variable (l : List Int) (hl : l.length ≤ 1048576)
include hl
/-- What may follow of the labels: each is left out, or has one of two values. -/
def labTails : List ByteArray → List (List S99)
  | [] => [[]]
  | n :: m => labTails m ++ ((labTails m).map ((⟨n, ⟨#[49]⟩⟩ : S99) :: ·) ++ (labTails m).map ((⟨n, ⟨#[50]⟩⟩ : S99) :: ·))
theorem dTails_l0 (m : List ByteArray) (hm : m.length ≤ 100) : ∀ (suf pre : List ByteArray) (x : List S99) (p s : Int), 0 ≤ p → m = pre ++ suf → x.length + suf.length ≤ 100 →
    ∃ r p' s', Ev (fun k => spec_l2Draw.l0 k x m (m.length : Int) (pre.length : Int) l p s) (r, p', s') ∧ 0 ≤ p' ∧ ∃ t ∈ labTails suf, r = x ++ t
  | [], pre, x, p, s, hp, hm2, hx => ⟨x, p, s, ⟨1, fun k hk => by
    obtain ⟨k, rfl⟩ : ∃ j, k = j + 1 := ⟨k - 1, by omega⟩
    simp only [spec_l2Draw.l0]; rw [if_neg (by rw [hm2]; simp)]⟩, hp, [], by simp [labTails], by simp⟩
  | n :: suf, pre, x, p, s, hp, hm2, hx => by
    have hlen : m.length = pre.length + (suf.length + 1) := by rw [hm2]; simp
    have c : (pre.length : Int) < (m.length : Int) := by omega
    have er : rdOf ByteArray.empty m (pre.length : Int) = n := by rw [hm2]; unfold rdOf; simp
    have eN : ((pre.length + 1 : Nat) : Int) = ((pre ++ [n]).length : Int) := by simp
    obtain ⟨v, p1, s1, e1, q1⟩ := dOnce l hl p s 4 hp (by decide) (by decide)
    cases v with
    | true =>
      obtain ⟨u, p2, s2, e2, q2, u2⟩ := dStr l hl p1 s1 [(⟨#[49]⟩ : ByteArray), (⟨#[50]⟩ : ByteArray)] q1 (by decide) (by decide)
      obtain ⟨r, p', s', ⟨K, g⟩, q, t, ht, et⟩ := dTails_l0 m hm suf (pre ++ [n]) (x ++ [(⟨n, u⟩ : S99)]) p2 s2 q2 (by rw [hm2]; simp) (by simp only [List.length_append, List.length_singleton]; simp only [List.length_cons] at hx; omega)
      refine ⟨r, p', s', ⟨K + 1, fun k hk => ?_⟩, q, (⟨n, u⟩ : S99) :: t, ?_, by rw [et]; simp⟩
      · obtain ⟨k, rfl⟩ : ∃ j, k = j + 1 := ⟨k - 1, by omega⟩
        have e := g k (by omega)
        simp only at e
        simp only [spec_l2Draw.l0]
        rw [if_pos c, if_pos (by omega), if_pos c, e1]
        simp only [Option.bind_some, if_true]
        rw [e2]
        simp only [Option.bind_some]
        simp only [List.length_cons] at hx
        rw [if_pos (by omega), wrap_up _ (by omega), er, eN, e]
      · have : u = ⟨#[49]⟩ ∨ u = ⟨#[50]⟩ := by simpa using u2
        rcases this with rfl | rfl
        · exact List.mem_append.2 (.inr (List.mem_append.2 (.inl (List.mem_map.2 ⟨t, ht, rfl⟩))))
        · exact List.mem_append.2 (.inr (List.mem_append.2 (.inr (List.mem_map.2 ⟨t, ht, rfl⟩))))
    | false =>
      obtain ⟨r, p', s', ⟨K, g⟩, q, t, ht, et⟩ := dTails_l0 m hm suf (pre ++ [n]) x p1 s1 q1 (by rw [hm2]; simp) (by simp only [List.length_cons] at hx; omega)
      refine ⟨r, p', s', ⟨K + 1, fun k hk => ?_⟩, q, t, List.mem_append.2 (.inl ht), et⟩
      obtain ⟨k, rfl⟩ : ∃ j, k = j + 1 := ⟨k - 1, by omega⟩
      have e := g k (by omega)
      simp only at e
      simp only [spec_l2Draw.l0]
      simp only [List.length_cons] at hx
      rw [if_pos c, if_pos (by omega), if_pos c, e1]
      simp only [Option.bind_some, Bool.false_eq_true, if_false]
      rw [wrap_up _ (by omega), eN, e]
omit hl in
theorem labs_ok : ∀ u ∈ [(⟨#[97]⟩ : ByteArray), (⟨#[98]⟩ : ByteArray), (⟨#[99]⟩ : ByteArray)], ∀ t ∈ labTails [(⟨#[104, 111, 115, 116]⟩ : ByteArray), (⟨#[115, 101, 118]⟩ : ByteArray), (⟨#[122, 111, 110, 101]⟩ : ByteArray)],
    setOk ((⟨⟨#[97, 112, 112]⟩, u⟩ : S99) :: t) = true := by decide +kernel
theorem dLabelsOk (p s : Int) (hp : 0 ≤ p) : ∃ r p' s', Ev (fun k => spec_l2Draw.f k l p s) (r, p', s') ∧ 0 ≤ p' ∧ ShortL 4 r ∧ 1 ≤ r.length ∧ setOk r = true := by
  obtain ⟨u, p1, s1, e1, q1, u1⟩ := dStr l hl p s [(⟨#[97]⟩ : ByteArray), (⟨#[98]⟩ : ByteArray), (⟨#[99]⟩ : ByteArray)] hp (by decide) (by decide)
  obtain ⟨r, p', s', ⟨K, g⟩, q, t, ht, et⟩ := dTails_l0 l hl [(⟨#[104, 111, 115, 116]⟩ : ByteArray), (⟨#[115, 101, 118]⟩ : ByteArray), (⟨#[122, 111, 110, 101]⟩ : ByteArray)] (by decide) [(⟨#[104, 111, 115, 116]⟩ : ByteArray), (⟨#[115, 101, 118]⟩ : ByteArray), (⟨#[122, 111, 110, 101]⟩ : ByteArray)] [] [(⟨(⟨#[97, 112, 112]⟩ : ByteArray), u⟩ : S99)] p1 s1 q1 rfl (by simp)
  have hE : Ev (fun k => spec_l2Draw.f k l p s) (r, p', s') := ⟨K, fun k hk => by
    have e := g k hk
    simp only at e
    simp only [spec_l2Draw.f, e1, Option.bind_some]
    exact e⟩
  obtain ⟨r', p2, s2, h2, _, w, w2⟩ := dLabels l hl p s hp
  have eu := Ev.uniq hE h2
  simp only [Prod.mk.injEq] at eu
  refine ⟨r, p', s', hE, q, by rw [eu.1]; exact w, by rw [eu.1]; exact w2, ?_⟩
  rw [et]
  exact labs_ok u u1 t ht
omit hl in
theorem plains_ok : ∀ v ∈ [(⟨#[97]⟩ : ByteArray), (⟨#[98]⟩ : ByteArray), (⟨#[120, 32, 121]⟩ : ByteArray), (⟨#[]⟩ : ByteArray), (⟨#[99, 114, 105, 116]⟩ : ByteArray), (⟨#[125, 45]⟩ : ByteArray)], v.size ≤ 4000000 ∧ plainOk v = true := by decide +kernel
/-- A drawn alarm is right. -/
theorem dAlarmOk (p s : Int) (hp : 0 ≤ p) : ∃ (a : S29) (p' s' : Int), Ev (fun k => spec_l4Draw.f k l p s) (a.f0, a.f1, a.f2, a.f3, p', s') ∧ 0 ≤ p' ∧ ShortA a ∧ alarmOk a = true := by
  obtain ⟨r, p1, s1, ⟨K, g⟩, q1, w, w2, w3⟩ := dLabelsOk l hl p s hp
  obtain ⟨b, p2, s2, e2, q2, b0, b1⟩ := dBelow l hl p1 s1 8 q1 (by decide) (by decide)
  obtain ⟨t, p3, s3, e3, q3, ht⟩ := dStr l hl p2 s2 [(⟨#[97]⟩ : ByteArray), (⟨#[98]⟩ : ByteArray), (⟨#[120, 32, 121]⟩ : ByteArray), (⟨#[]⟩ : ByteArray), (⟨#[99, 114, 105, 116]⟩ : ByteArray), (⟨#[125, 45]⟩ : ByteArray)] q2 (by decide) (by decide)
  obtain ⟨t1, t2⟩ := plains_ok t ht
  obtain ⟨c, p4, s4, e4, q4, hc⟩ := dInt l hl p3 s3 [0, 2, 5, 20, 60] q3 (by decide) (by decide)
  have hc2 : 0 ≤ c ∧ c ≤ 60 := by
    have : c = 0 ∨ c = 2 ∨ c = 5 ∨ c = 20 ∨ c = 60 := by simpa using hc
    omega
  have hw : wrap64 (b + c) = b + c := wrap_id (by omega) (by omega)
  refine ⟨⟨r, b, wrap64 (b + c), t⟩, p4, s4, ⟨K, fun k hk => ?_⟩, q4, shortA_mk _ _ w (by decide) t1, ?_⟩
  · have e := g k hk
    simp only at e
    simp only [spec_l4Draw.f, spec_l1Plain.f, e, Option.bind_some, e2, e3, e4]
  · refine alarmOk_parts.2 ⟨w3, w2, ⟨b0, by show b ≤ 99999; omega⟩, ?_, t2⟩
    show b ≤ wrap64 (b + c) ∧ wrap64 (b + c) ≤ 99999
    rw [hw]; omega
/-- Labels of an alarm of the row, or drawn ones: right, where those of the row are. -/
theorem dPickOk (p s : Int) (la : List S29) (hp : 0 ≤ p) (ha : ∀ y ∈ la, ShortA y ∧ setOk y.f0 = true ∧ 0 < y.f0.length) (hn : la.length ≤ 4000000) :
    ∃ r p' s', Ev (fun k => spec_l7Labels.f k l p s la) (r, p', s') ∧ 0 ≤ p' ∧ ShortL 100 r ∧ setOk r = true ∧ 0 < r.length := by
  have draw : ∀ p s : Int, 0 ≤ p → ∃ r p' s', Ev (fun k => spec_l7Labels.j0 k la false l p s) (r, p', s') ∧ 0 ≤ p' ∧ ShortL 100 r ∧ setOk r = true ∧ 0 < r.length := fun p s hp => by
    obtain ⟨r, p1, s1, ⟨K, g⟩, q1, w, w2, w3⟩ := dLabelsOk l hl p s hp
    refine ⟨r, p1, s1, ⟨K + 1, fun k hk => ?_⟩, q1, shortL_up w (by decide), w3, w2⟩
    obtain ⟨k, rfl⟩ : ∃ j, k = j + 1 := ⟨k - 1, by omega⟩
    have e := g k (by omega)
    simp only at e
    simp only [spec_l7Labels.j0]
    rw [if_neg (by decide), e, Option.bind_some]
  by_cases c : (la.length : Int) > 0
  · obtain ⟨b, p1, s1, e1, q1⟩ := dOnce l hl p s 3 hp (by decide) (by decide)
    cases b with
    | true =>
      obtain ⟨r, p', s', ⟨K, g⟩, q, w⟩ := draw p1 s1 q1
      refine ⟨r, p', s', ⟨K, fun k hk => ?_⟩, q, w⟩
      have e := g k hk
      simp only at e
      simp only [spec_l7Labels.f, if_pos c, e1, Option.bind_some, Bool.not_true]
      exact e
    | false =>
      obtain ⟨v, p2, s2, e2, q2, v0, v1⟩ := dBelowAny l hl p1 s1 (la.length : Int) q1 (by omega)
      obtain ⟨hv, hv2, hv3⟩ := ha _ (getD_mem la v.toNat z29 (by omega))
      have er : rd_T29 la v = la.getD v.toNat z29 := by unfold rd_T29; rfl
      have hvl := hv.1
      refine ⟨(la.getD v.toNat z29).f0, p2, s2, ⟨1, fun k hk => ?_⟩, q2, ⟨hv.1, hv.2.1.2⟩, hv2, hv3⟩
      obtain ⟨k, rfl⟩ : ∃ j, k = j + 1 := ⟨k - 1, by omega⟩
      simp only [spec_l7Labels.f, if_pos c, e1, Option.bind_some, Bool.not_false, spec_l7Labels.j0, if_true, e2, er, List.nil_append, List.length_nil]
      rw [if_pos v0, if_pos v1, if_pos (by omega)]
  · obtain ⟨r, p', s', ⟨K, g⟩, q, w⟩ := draw p s hp
    refine ⟨r, p', s', ⟨K, fun k hk => ?_⟩, q, w⟩
    have e := g k hk
    simp only at e
    simp only [spec_l7Labels.f, if_neg c]
    exact e
theorem dStore_l0 : ∀ (n : Nat) (x : List S26) (m : Nat) (p s : Int), 0 ≤ p → ShortS m x → OkS x → m + n ≤ 100 →
    ∃ (r : List S26) (p' s' : Int), Ev (fun k => spec_l8Draw.l0 k x (n : Int) l p s) (r, p', s') ∧ 0 ≤ p' ∧ ShortS (m + n) r ∧ OkS r
  | 0, x, m, p, s, hp, hx, ho, hn => ⟨x, p, s, ⟨1, fun k hk => by
    obtain ⟨k, rfl⟩ : ∃ j, k = j + 1 := ⟨k - 1, by omega⟩
    simp only [spec_l8Draw.l0]; rw [if_neg (by omega)]⟩, hp, hx, ho⟩
  | n + 1, x, m, p, s, hp, hx, ho, hn => by
    obtain ⟨a, p1, s1, ⟨K1, g1⟩, q1, wa, oa⟩ := dAlarmOk l hl p s hp
    obtain ⟨K2, g2⟩ := specPutAlarm_ev x a (shortS_wi hx (by omega)) wa.2
    obtain ⟨r, p', s', ⟨K, g⟩, q, h1, h2⟩ := dStore_l0 n (putAlarm x a).1 (m + 1) p1 s1 q1 (putAlarm_short (by omega) hx ho.1.1 wa) (putAlarm_ok ho (fun y hy => by have := (hx.2 y hy).1.2; omega) oa) (by omega)
    refine ⟨r, p', s', ⟨K + K1 + K2 + 1, fun k hk => ?_⟩, q, by rwa [show m + (n + 1) = m + 1 + n by omega], h2⟩
    obtain ⟨k, rfl⟩ : ∃ j, k = j + 1 := ⟨k - 1, by omega⟩
    have e := g k (by omega)
    have e1 := g1 k (by omega)
    have e2 := g2 k (by omega)
    simp only at e e1 e2
    simp only [spec_l8Draw.l0]
    rw [if_pos (by omega), e1, Option.bind_some, e2, Option.bind_some, show wrap64 (((n + 1 : Nat) : Int) - 1) = (n : Int) by rw [wrap_id (by omega) (by omega)]; omega]
    exact e
omit hl in
theorem storeNew_rep (n : Nat) (h1 : 1 ≤ n) (h3 : n ≤ 3) : Ev (fun k => spec_StoreNew.f k (n : Int)) (List.replicate n (⟨-1, 0, []⟩ : S26)) := by
  refine ⟨10, fun k hk => ?_⟩
  obtain ⟨m, rfl⟩ : ∃ m, k = m + 10 := ⟨k - 10, by omega⟩
  rcases (show n = 1 ∨ n = 2 ∨ n = 3 by omega) with rfl | rfl | rfl <;> simp [spec_StoreNew.f, spec_StoreNew.l0, List.replicate]
omit hl in
theorem rep_ok (n : Nat) (h1 : 1 ≤ n) (h3 : n ≤ 3) : OkS (List.replicate n (⟨-1, 0, []⟩ : S26)) ∧ ShortS 0 (List.replicate n (⟨-1, 0, []⟩ : S26)) := by
  have hm : ∀ p ∈ List.replicate n (⟨-1, 0, []⟩ : S26), p = ⟨-1, 0, []⟩ := fun p hp => List.eq_of_mem_replicate hp
  refine ⟨⟨by rw [List.length_replicate]; exact ⟨h1, h3⟩, fun i hi => ?_⟩, by rw [List.length_replicate]; exact h3, fun p hp => ?_⟩
  · rw [hm _ (getD_mem _ i z26 hi)]
    exact ⟨⟨⟨by decide, by decide⟩, by decide⟩, fun c hc => (by cases hc), List.Pairwise.nil⟩
  · rw [hm p hp]
    exact ⟨⟨by decide, by decide⟩, Nat.le_refl _, fun c hc => (by cases hc)⟩
theorem dStore (p s : Int) (hp : 0 ≤ p) : ∃ (r : List S26) (p' s' : Int), Ev (fun k => spec_l8Draw.f k l p s) (r, p', s') ∧ 0 ≤ p' ∧ ShortS 7 r ∧ OkS r := by
  obtain ⟨b, p1, s1, e1, q1, b0, b1⟩ := dBelow l hl p s 3 hp (by decide) (by decide)
  obtain ⟨d, p2, s2, e2, q2, d0, d1⟩ := dBelow l hl p1 s1 8 q1 (by decide) (by decide)
  obtain ⟨n, rfl⟩ : ∃ n : Nat, d = (n : Int) := ⟨d.toNat, by omega⟩
  obtain ⟨j, ej⟩ : ∃ j : Nat, 1 + b = (j : Int) := ⟨(1 + b).toNat, by omega⟩
  have ew : wrap64 (1 + b) = (j : Int) := by rw [wrap_id (by omega) (by omega)]; exact ej
  obtain ⟨K0, g0⟩ := storeNew_rep j (by omega) (by omega)
  obtain ⟨o1, o2⟩ := rep_ok j (by omega) (by omega)
  obtain ⟨r, p', s', ⟨K, g⟩, q, h1, h2⟩ := dStore_l0 l hl n (List.replicate j (⟨-1, 0, []⟩ : S26)) 0 p2 s2 q2 o2 o1 (by omega)
  refine ⟨r, p', s', ⟨K + K0, fun k hk => ?_⟩, q, ⟨h1.1, fun x hx => shortP_up (h1.2 x hx) (by omega)⟩, h2⟩
  have e := g k (by omega)
  have e0 := g0 k (by omega)
  simp only at e e0
  simp only [spec_l8Draw.f, e1, Option.bind_some, ew, e0, e2]
  exact e
theorem drawStore_ev : ∃ (x : List S26) (a : S29), Ev (fun k => spec_DrawStore.f k l) (x, a.f0, a.f1, a.f2, a.f3) ∧ ShortS 7 x ∧ OkS x ∧ ShortA a ∧ alarmOk a = true := by
  obtain ⟨s0, K0, g0⟩ := dNew l hl
  obtain ⟨x, p1, s1, ⟨K1, g1⟩, q1, w1, o1⟩ := dStore l hl 0 s0 (by decide)
  obtain ⟨a, p2, s2, ⟨K2, g2⟩, q2, wa, oa⟩ := dAlarmOk l hl p1 s1 q1
  have hi := shortS_in w1 (by decide)
  have hA : (allA x).length ≤ 3000000 ∧ ∀ y ∈ allA x, y ∈ inS x := ⟨by unfold allA; rw [sortE_length]; simpa using hi.1, fun y hy => by simpa [allA, sortE_mem] using hy⟩
  have hok : ∀ y ∈ inS x, alarmOk y = true := fun y hy => by
    obtain ⟨p, hp, hy⟩ := inS_mem hy
    obtain ⟨i, hi, e⟩ := List.mem_iff_getElem.1 hp
    have ep : x.getD i z26 = p := by rw [← e]; simp [List.getD_eq_getElem?_getD, hi]
    have hk := o1.2 i hi
    rw [ep] at hk
    obtain ⟨c, hc, hy⟩ := inC_mem hy
    exact ((hk.2.1 c hc).1.2.1 y hy).1
  obtain ⟨K3, g3⟩ := specAllAlarms_ev x (shortS_wi w1 (by decide)) (by omega)
  obtain ⟨r, p4, s4, ⟨K4, g4⟩, q4, w4, o4, o5⟩ := dPickOk l hl p2 s2 (allA x) q2 (fun y hy => ⟨hi.2 y (hA.2 y hy), (alarmOk_parts.1 (hok y (hA.2 y hy))).1, (alarmOk_parts.1 (hok y (hA.2 y hy))).2.1⟩) (by omega)
  obtain ⟨_, _, b1, b2, b3⟩ := alarmOk_parts.1 oa
  refine ⟨x, ⟨r, a.f1, a.f2, a.f3⟩, ⟨K0 + K1 + K2 + K3 + K4, fun k hk => ?_⟩, w1, o1, shortA_mk _ _ w4 (by decide) wa.2.2.2.2, alarmOk_parts.2 ⟨o4, o5, b1, b2, b3⟩⟩
  have e0 := g0 k (by omega)
  have e1 := g1 k (by omega)
  have e2 := g2 k (by omega)
  have e3 := g3 k (by omega)
  have e4 := g4 k (by omega)
  simp only at e0 e1 e2 e3 e4
  simp only [spec_DrawStore.f, e0, Option.bind_some, e1, e2, e3, e4]
end
end Go.Proofs.YtanfohlpkppeiaaGreat.Print
end
section
/- The law FnStores answers true for all arguments that can be read: the pure statement, without Go and memory. No condition. -/
namespace Go.Proofs.YtanfohlpkppeiaaGreat.Print
open Go.RowKit Go.Proofs.YtanfohlpkppeiaaGreatV.PrintWords Go.Proofs.YtanfohlpkppeiaaGreatV.PrintLast Go.Proofs.YtanfohlpkppeiaaGreatV.PrintMore
set_option linter.unusedVariables false
set_option linter.unusedSimpArgs false
theorem sameAlarm_refl (a : S29) (h : WiAlarm a) : Ev (fun k => impl_SameAlarm.f k a.f0 a.f1 a.f2 a.f3 a.f0 a.f1 a.f2 a.f3) true := by
  have e := implSameAlarm_ev a a (by have := h.1.1; omega)
  rwa [show sameAlarm a a = true from decide_eq_true rfl] at e
theorem rdnAlarmS (l : List S29) (i : Nat) : rd_T29 l (i : Int) = l.getD i z29 := by unfold rd_T29; simp
theorem fnStores_l0 (l x : List S26) (fr : Bool) (hl : ShortS 7 l) (ol : OkS l) (hx : ShortS 8 x) (ox : OkS x) (hn : (inS x).length = (inS l).length + (if fr = true then 1 else 0)) :
    ∀ d i : Nat, i + d = (allA x).length → Ev (fun k => laws_FnStores.l0 k l x fr (allA x) (i : Int)) true
  | 0, i, hi => by
    have b1 := (shortS_in hl (by decide)).1
    have b2 := (shortS_in hx (by decide)).1
    have eA : (allA x).length = (inS x).length := by unfold allA; rw [sortE_length]; simp
    have c1 : countOf l = (inS l).length := by unfold countOf; rw [cntP_is l 0 (by omega) (by omega)]; omega
    have c2 : countOf x = (inS x).length := by unfold countOf; rw [cntP_is x 0 (by omega) (by omega)]; omega
    obtain ⟨K1, g1⟩ := implCountOf_ev l (shortS_wi hl (by decide))
    obtain ⟨K2, g2⟩ := implCountOf_ev x (shortS_wi hx (by decide))
    refine ⟨K1 + K2 + 1, fun k hk => ?_⟩
    obtain ⟨k, rfl⟩ : ∃ j, k = j + 1 := ⟨k - 1, by omega⟩
    have e1 := g1 k (by omega)
    have e2 := g2 k (by omega)
    simp only at e1 e2
    simp only [laws_FnStores.l0]
    rw [if_neg (by omega)]
    simp only [e1, e2, Option.bind_some, c1, c2]
    cases fr with
    | true =>
      simp only [if_true] at hn ⊢
      rw [if_pos (by omega), wrap_id (by omega) (by omega)]
      congr 1
      simp only [beq_iff_eq]; omega
    | false =>
      simp only [Bool.false_eq_true, if_false] at hn ⊢
      rw [if_pos (by omega), wrap_id (by omega) (by omega)]
      congr 1
      simp only [beq_iff_eq]; omega
  | d + 1, i, hi => by
    have b2 := shortS_in hx (by decide)
    have eA : (allA x).length = (inS x).length := by unfold allA; rw [sortE_length]; simp
    have hlen := b2.1
    have hm : ∀ j, j < (allA x).length → (allA x).getD j z29 ∈ inS x := fun j hj => by
      have := getD_mem (allA x) j z29 hj
      simpa [allA, sortE_mem] using this
    have hA := b2.2 _ (hm i (by omega))
    have hf := find_in ox (hm i (by omega))
    obtain ⟨K, g⟩ := fnStores_l0 l x fr hl ol hx ox hn d (i + 1) (by omega)
    obtain ⟨K1, g1⟩ := implFindAlarm_ev x ((allA x).getD i z29).f0 (shortS_wi hx (by decide)) hA.2.1
    obtain ⟨K2, g2⟩ := sameAlarm_refl ((allA x).getD i z29) hA.2
    obtain ⟨K3, g3⟩ := implSetLess_ev ((allA x).getD (i - 1) z29).f0 ((allA x).getD i z29).f0 (by have := (b2.2 _ (hm (i - 1) (by omega))).1; omega)
    refine ⟨K + K1 + K2 + K3 + 1, fun k hk => ?_⟩
    obtain ⟨k, rfl⟩ : ∃ j, k = j + 1 := ⟨k - 1, by omega⟩
    have e := g k (by omega)
    have e1 := g1 k (by omega)
    have e2 := g2 k (by omega)
    have e3 := g3 k (by omega)
    simp only [hf] at e e1 e2 e3
    simp only [laws_FnStores.l0]
    rw [if_pos (by omega), if_pos (by omega)]
    simp only [rdnAlarmS, e1, Option.bind_some, if_true, e2]
    by_cases c : (i : Int) > 0
    · rw [if_pos c, sub1 i (by omega) (by omega), if_pos (by omega), if_pos (by omega), rdnAlarmS, e3, Option.bind_some]
      have hs : setLess ((allA x).getD (i - 1) z29).f0 ((allA x).getD i z29).f0 = true := by
        have := List.pairwise_iff_getElem.1 (allA_strict ox) (i - 1) i (by omega) (by omega) (by omega)
        simpa [altA, List.getD_eq_getElem?_getD, show i < (allA x).length by omega, show i - 1 < (allA x).length by omega] using this
      rw [if_pos hs, wrap_up i (by omega)]
      exact e
    · rw [if_neg c, wrap_up i (by omega)]
      exact e
theorem fnStores_j0 (l x : List S26) (fr : Bool) (hl : ShortS 7 l) (ol : OkS l) (hx : ShortS 8 x) (ox : OkS x) (hn : (inS x).length = (inS l).length + (if fr = true then 1 else 0)) :
    Ev (fun k => laws_FnStores.j0 k l x fr (allA x) false) true := by
  obtain ⟨K, g⟩ := fnStores_l0 l x fr hl ol hx ox hn (allA x).length 0 (by omega)
  refine ⟨K + 1, fun k hk => ?_⟩
  obtain ⟨k, rfl⟩ : ∃ j, k = j + 1 := ⟨k - 1, by omega⟩
  have e := g k (by omega)
  simp only at e
  simp only [laws_FnStores.j0]
  rw [if_neg (by decide)]
  exact e
theorem pure_FnStores : laws_FnStores.Pure := by
  intro l0 h0 h1 h2
  by_cases c : (l0.length : Int) > 1048576
  · exact ⟨0, by simp [laws_FnStores.f, laws_big.f, c]⟩
  have hl : l0.length ≤ 1048576 := by omega
  obtain ⟨l, a, ⟨K1, g1⟩, wl, ol, wa, oa⟩ := drawStore_ev l0 hl
  have wx := putAlarm_short (by decide) wl ol.1.1 wa
  have ox := putAlarm_ok ol (fun p hp => by have := (wl.2 p hp).1.2; omega) oa
  obtain ⟨f1, f2, f3⟩ := putAlarm_found (l := l) a ol.1.1
  have hn := putAlarm_count (l := l) a ol.1.1
  have b2 := (shortS_in wx (by decide)).1
  obtain ⟨K2, g2⟩ := implPutAlarm_ev l a (shortS_wi wl (by decide)) wa.2
  obtain ⟨K3, g3⟩ := implFindAlarm_ev l a.f0 (shortS_wi wl (by decide)) wa.2.1
  obtain ⟨K4, g4⟩ := implFindAlarm_ev (putAlarm l a).1 a.f0 (shortS_wi wx (by decide)) wa.2.1
  obtain ⟨K5, g5⟩ := implAllAlarms_ev (putAlarm l a).1 (shortS_wi wx (by decide)) (by omega)
  obtain ⟨K6, g6⟩ := implStoreOk_ev l (shortS_wi wl (by decide))
  obtain ⟨K7, g7⟩ := implStoreOk_ev (putAlarm l a).1 (shortS_wi wx (by decide))
  obtain ⟨K8, g8⟩ := fnStores_j0 l (putAlarm l a).1 (putAlarm l a).2 wl ol wx ox hn
  have w1 := findAlarm_wi (s := a.f0) (shortS_wi wl (by decide))
  have em := implMerge_ev (findAlarm l a.f0).1 a (Nat.le_trans wa.1 (by decide))
  obtain ⟨K9, g9⟩ := sameAlarm_refl (mergeA (findAlarm l a.f0).1 a) (mergeA_wi wa.2)
  obtain ⟨K10, g10⟩ := sameAlarm_refl a wa.2
  rw [okS_is ol] at g6
  rw [okS_is ox] at g7
  let K := K1 + K2 + K3 + K4 + K5 + K6 + K7 + K8 + K9 + K10
  have q1 := g1 K (by omega)
  have q2 := g2 K (by omega)
  have q3 := g3 K (by omega)
  have q4 := g4 K (by omega)
  have q5 := g5 K (by omega)
  have q6 := g6 K (by omega)
  have q7 := g7 K (by omega)
  have q8 := g8 K (by omega)
  have q9 := g9 K (by omega)
  have q10 := g10 K (by omega)
  simp only at q1 q2 q3 q4 q5 q6 q7 q8 q9 q10
  refine ⟨K, ?_⟩
  generalize K = k at *
  simp only [laws_FnStores.f, laws_big.f, Option.bind_some, decide_eq_false c, Bool.false_eq_true, if_false, q1, q2, q3, q4, q5, q6, q7, if_true, f1, f3]
  by_cases ct : (findAlarm l a.f0).2 = true
  · simp only [ct, if_true, f2, em, Option.bind_some, q9, Bool.not_true, q8]
    rw [f2, ct] at q8
    simpa using q8
  · have ct' : (findAlarm l a.f0).2 = false := by simpa using ct
    simp only [ct', f2, Bool.false_eq_true, if_false, q10, Option.bind_some, Bool.not_true]
    rw [f2, ct'] at q8
    simpa using q8
end Go.Proofs.YtanfohlpkppeiaaGreat.Print
namespace Go.Proofs.YtanfohlpkppeiaaGreat.Pure
theorem FnStores : Go.Proofs.YtanfohlpkppeiaaGreat.Print.laws_FnStores.Pure := Go.Proofs.YtanfohlpkppeiaaGreat.Print.pure_FnStores
end Go.Proofs.YtanfohlpkppeiaaGreat.Pure
namespace Go.Proofs.YtanfohlpkppeiaaGreat.Print

end Go.Proofs.YtanfohlpkppeiaaGreat.Print
end
