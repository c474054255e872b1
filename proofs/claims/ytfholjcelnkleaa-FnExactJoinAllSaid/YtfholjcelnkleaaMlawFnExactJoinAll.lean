import Derived.Test.YtfholjcelnkleaaRows
import Derived.Test.YtfholjcelnkleaaMFnExactJoinAll6
/- For every input the law FnExactJoinAll returns true, and its arguments read behind the call as they read before. No condition. -/
-- Written by printx.py, a program of this session (wip/gen), over the kit's print.py.
namespace Go.Proofs.Ytfholjcelnkleaa.fnExactJoinAll
open Go.ChangeShapes Go.WideShapes Go.ChangeAt Go.RowKit
open Go.ChangeMaps (open_string shut_string)
open Go.Proofs.Ytfholjcelnkleaa.Print Go.Proofs.YtfholjcelnkleaaV.PrintWords
set_option linter.unusedVariables false
theorem own : ownKnob Try.prog.godebug = none := by kernel_rfl
theorem laidOut : laidOutB Try.prog = true := by kernel_rfl
set_option maxRecDepth 100000 in
theorem lifted (os : Os) (started : os.Started) (H : Type) (enc : TypeId × Value → H) :
  ReturnsInHanded {} Try.checked os 12 .any (Rows.fnExactJoinAllSpec.pre6 enc Try.prog Try.f12 Rows.fnExactJoinAllRow.domain false) (Rows.fnExactJoinAllSpec.post enc Try.prog Try.f12 false true false false) := by
 refine returnsInHanded_of_change_sized (C := Try.checked) own started (by kernel_rfl) Try.func12
  (ChangeSpec.witness6 (enc := enc) (C := Try.checked) false ⟨#[], #[.slice none 0 0, (.agg #[(.slice none 0 0), (.int .i64 0), (.int .i64 0), (.string ⟨#[]⟩)]), .slice none 0 0, .int .i64 0, .int .i64 0], []⟩ 12 (by kernel_rfl) (by kernel_rfl) (by kernel_rfl) (by kernel_rfl)) ?_
 intro W base args ds gs before hval0 hW hcnd hsz0 _
 have hval : ∀ (j : Nat) t v, Try.f12.params[j]? = some t → args[j]? = some v → Value.okWide Try.prog W .any base t v := hval0
 have hW' := hW
 obtain ⟨p, q, hA0, hV, rfl, hfz, hnd⟩ := hW
 have hA : DataW.TrodAll enc Try.prog W 0 (fun _ => true) true Try.f12.params.toList args.toList ds p := hA0
 rw [Try.params12] at hA hval
 obtain ⟨v0, vs0, d0, ds0, p0, q0, hargs, rfl, rfl, h0, r0⟩ := trodAll_cons hA
 obtain ⟨v1, vs1, d1, ds1, p1, q1, rfl, rfl, rfl, h1, r1⟩ := trodAll_cons r0
 obtain ⟨v2, vs2, d2, ds2, p2, q2, rfl, rfl, rfl, h2, r2⟩ := trodAll_cons r1
 obtain ⟨v3, vs3, d3, ds3, p3, q3, rfl, rfl, rfl, h3, r3⟩ := trodAll_cons r2
 obtain ⟨v4, vs4, d4, ds4, p4, q4, rfl, rfl, rfl, h4, r4⟩ := trodAll_cons r3
 obtain ⟨rfl, rfl, rfl⟩ := trodAll_nil r4
 obtain rfl : args = #[v0, v1, v2, v3, v4] := by cases args; simp_all
 obtain ⟨rfl, rfl⟩ := trodVars_none hV
 have k0 := h0
 have lt0 : ∀ x ∈ p0, x.block < W.heap.size := by obtain ⟨m, hm⟩ := k0; exact DataW.trod_lt m _ _ _ hm
 obtain ⟨a0, len0, cap0, rfl⟩ := okWide_slice Try.underlying84 (hval 0 84 v0 rfl rfl)
 obtain ⟨f0, hf0⟩ := h0
 obtain ⟨l0, ⟨A0, c0, he0, hc0, hr0⟩, hB0⟩ := (opens_slice Try.underlying84 (by kernel_rfl) opens_69) _ _ _ _ _ _ _ hf0
 obtain ⟨rfl, rfl, rfl⟩ : a0 = A0 ∧ len0 = l0.length ∧ cap0 = c0 := by simpa [Value.cells] using he0
 have k1 := h1
 have lt1 : ∀ x ∈ p1, x.block < W.heap.size := by obtain ⟨m, hm⟩ := k1; exact DataW.trod_lt m _ _ _ hm
 obtain ⟨cs1, rfl, hcz1⟩ := okWide_struct Try.underlying34 (hval 1 34 v1 rfl rfl)
 obtain ⟨f1, hf1⟩ := h1
 obtain ⟨x1, hK1, hB1⟩ := (opens_struct Try.underlying34 (by kernel_rfl) (opensF_cons rfl (by kernel_rfl) (opens_slice Try.underlying32 (by kernel_rfl) opens_163) (opensF_cons rfl (by kernel_rfl) (opens_int Try.underlying3) (opensF_cons rfl (by kernel_rfl) (opens_int Try.underlying3) (opensF_one rfl (by kernel_rfl) (opens_string Try.underlying9))))) : Opens Try.prog 34 (Kd.pair (Kd.slice 163 k163) (Kd.pair (Kd.int .i64) (Kd.pair (Kd.int .i64) Kd.string))) _) _ _ _ _ _ _ _ hf1
 obtain ⟨l1_0, a1_1, a1_2, a1_3⟩ := x1
 have hcs1 : ∃ A1_0 c1_0, cs1.toList = [.slice A1_0 l1_0.length c1_0, .int .i64 a1_1, .int .i64 a1_2, .string a1_3] ∧ l1_0.length ≤ c1_0 ∧ Kd.C k163 W A1_0 l1_0.length l1_0 := by
  have hK := hK1
  change Kd.K _ W _ cs1.toList at hK
  generalize cs1.toList = z_ at hK ⊢
  obtain ⟨_, _, rfl, ⟨A1_0, c1_0, rfl, hc1_0, hr1_0⟩, ⟨_, _, rfl, rfl, ⟨_, _, rfl, rfl, rfl⟩⟩⟩ := hK
  exact ⟨A1_0, c1_0, rfl, hc1_0, hr1_0⟩
 obtain ⟨A1_0, c1_0, hcs1, hc1_0, hr1_0⟩ := hcs1
 obtain rfl : cs1 = #[.slice A1_0 l1_0.length c1_0, .int .i64 a1_1, .int .i64 a1_2, .string a1_3] := by rw [← hcs1]
 have k2 := h2
 have lt2 : ∀ x ∈ p2, x.block < W.heap.size := by obtain ⟨m, hm⟩ := k2; exact DataW.trod_lt m _ _ _ hm
 obtain ⟨a2, len2, cap2, rfl⟩ := okWide_slice Try.underlying70 (hval 2 70 v2 rfl rfl)
 obtain ⟨f2, hf2⟩ := h2
 obtain ⟨l2, ⟨A2, c2, he2, hc2, hr2⟩, hB2⟩ := (opens_slice Try.underlying70 (by kernel_rfl) (opens_string Try.underlying9)) _ _ _ _ _ _ _ hf2
 obtain ⟨rfl, rfl, rfl⟩ : a2 = A2 ∧ len2 = l2.length ∧ cap2 = c2 := by simpa [Value.cells] using he2
 have k3 := h3
 have lt3 : ∀ x ∈ p3, x.block < W.heap.size := by obtain ⟨m, hm⟩ := k3; exact DataW.trod_lt m _ _ _ hm
 obtain ⟨a3, rfl, rfl, rfl, w3⟩ := open_int Try.underlying3 (hval 3 3 v3 rfl rfl) h3
 have k4 := h4
 have lt4 : ∀ x ∈ p4, x.block < W.heap.size := by obtain ⟨m, hm⟩ := k4; exact DataW.trod_lt m _ _ _ hm
 obtain ⟨a4, rfl, rfl, rfl, w4⟩ := open_int Try.underlying3 (hval 4 3 v4 rfl rfl) h4
 obtain ⟨k, h⟩ := pure_FnExactJoinAll l0 l1_0 a1_1 a1_2 a1_3 l2 a3 a4 hB0 hB1.1 hB1.2.1 hB1.2.2.1 hB1.2.2.2 hB2 w3 w4
 clear hA0 hval0 hsz0
 refine (Print.laws_FnExactJoinAll.calls (k := k) (r := true) (w := W) (hr0 := hr0) (hc0 := hc0) (hr1_0 := hr1_0) (hc1_0 := hc1_0) (hr2 := hr2) (hc2 := hc2) (h := h)).mono fun e W' ⟨he, bel0⟩ => ?_
 have bel : Below W.heap.size W W' := bel0
 subst he
 exact ⟨_, rfl, _, _, _, [], _, [], hW', trodAll_mk1 (shut_bool Try.underlying4 _), (trodAll_cons_mk (Below.trod laidOut (by kernel_rfl) (of_decide_eq_true (by kernel_rfl)) k0 bel lt0) (trodAll_cons_mk (Below.trod laidOut (by kernel_rfl) (of_decide_eq_true (by kernel_rfl)) k1 bel lt1) (trodAll_cons_mk (Below.trod laidOut (by kernel_rfl) (of_decide_eq_true (by kernel_rfl)) k2 bel lt2) (trodAll_cons_mk (Below.trod laidOut (by kernel_rfl) (of_decide_eq_true (by kernel_rfl)) k3 bel lt3) (trodAll_cons_mk (Below.trod laidOut (by kernel_rfl) (of_decide_eq_true (by kernel_rfl)) k4 bel lt4) trodAll_mk0))))), rfl, bel.frame _, fun h => by cases h⟩
theorem over : Rows.fnExactJoinAllRow.holds Try.pinned (OpenSpec.ofChange Rows.fnExactJoinAllSpec) :=
 OpenClaim.holds_of_wide 12 Try.f12 rfl rfl rfl rfl rfl rfl rfl ⟨rfl, rfl, rfl, rfl, rfl⟩ rfl rfl rfl rfl rfl (by kernel_rfl) Try.func12 (by kernel_rfl)
  (of_decide_eq_true (by kernel_rfl)) (by unfold Func.isWrapper; first | (rw [if_pos (by decide +kernel)]; kernel_rfl) | (rw [if_neg (by decide +kernel)]; exact ⟨rfl, rfl⟩))
  (fun os started H enc _ => lifted os started H enc)
theorem proved : Rows.FnExactJoinAllSaid := over
#print axioms proved
end Go.Proofs.Ytfholjcelnkleaa.fnExactJoinAll
namespace Go.Proofs.Ytfholjcelnkleaa
/-- The row, under a short name, for the claim. -/
theorem fnExactJoinAll_holds : Rows.FnExactJoinAllSaid := fnExactJoinAll.proved
end Go.Proofs.Ytfholjcelnkleaa
