import Derived.Test.YtfholjcelnkleaaRows
import Derived.Test.YtfholjcelnkleaaMFnExactJoinIn6
/- For every input the law FnExactJoinIn returns true, and its arguments read behind the call as they read before. No condition. -/
-- Written by printx.py, a program of this session (wip/gen), over the kit's print.py.
namespace Go.Proofs.Ytfholjcelnkleaa.fnExactJoinIn
open Go.ChangeShapes Go.WideShapes Go.ChangeAt Go.RowKit
open Go.ChangeMaps (open_string shut_string)
open Go.Proofs.Ytfholjcelnkleaa.Print Go.Proofs.YtfholjcelnkleaaV.PrintWords
set_option linter.unusedVariables false
theorem own : ownKnob Try.prog.godebug = none := by kernel_rfl
theorem laidOut : laidOutB Try.prog = true := by kernel_rfl
set_option maxRecDepth 100000 in
theorem lifted (os : Os) (started : os.Started) (H : Type) (enc : TypeId × Value → H) :
  ReturnsInHanded {} Try.checked os 9 .any (Rows.fnExactJoinInSpec.pre6 enc Try.prog Try.f9 Rows.fnExactJoinInRow.domain false) (Rows.fnExactJoinInSpec.post enc Try.prog Try.f9 false true false false) := by
 refine returnsInHanded_of_change_sized (C := Try.checked) own started (by kernel_rfl) Try.func9
  (ChangeSpec.witness6 (enc := enc) (C := Try.checked) false ⟨#[], #[(.agg #[(.int .i64 0), (.slice none 0 0), (.int .i64 0), (.int .i64 0), (.slice none 0 0)]), (.agg #[(.slice none 0 0), (.int .i64 0), (.int .i64 0), (.string ⟨#[]⟩)])], []⟩ 12 (by kernel_rfl) (by kernel_rfl) (by kernel_rfl) (by kernel_rfl)) ?_
 intro W base args ds gs before hval0 hW hcnd hsz0 _
 have hval : ∀ (j : Nat) t v, Try.f9.params[j]? = some t → args[j]? = some v → Value.okWide Try.prog W .any base t v := hval0
 have hW' := hW
 obtain ⟨p, q, hA0, hV, rfl, hfz, hnd⟩ := hW
 have hA : DataW.TrodAll enc Try.prog W 0 (fun _ => true) true Try.f9.params.toList args.toList ds p := hA0
 rw [Try.params9] at hA hval
 obtain ⟨v0, vs0, d0, ds0, p0, q0, hargs, rfl, rfl, h0, r0⟩ := trodAll_cons hA
 obtain ⟨v1, vs1, d1, ds1, p1, q1, rfl, rfl, rfl, h1, r1⟩ := trodAll_cons r0
 obtain ⟨rfl, rfl, rfl⟩ := trodAll_nil r1
 obtain rfl : args = #[v0, v1] := by cases args; simp_all
 obtain ⟨rfl, rfl⟩ := trodVars_none hV
 have k0 := h0
 have lt0 : ∀ x ∈ p0, x.block < W.heap.size := by obtain ⟨m, hm⟩ := k0; exact DataW.trod_lt m _ _ _ hm
 obtain ⟨cs0, rfl, hcz0⟩ := okWide_struct Try.underlying69 (hval 0 69 v0 rfl rfl)
 obtain ⟨f0, hf0⟩ := h0
 obtain ⟨x0, hK0, hB0⟩ := (opens_struct Try.underlying69 (by kernel_rfl) (opensF_cons rfl (by kernel_rfl) (opens_int Try.underlying3) (opensF_cons rfl (by kernel_rfl) (opens_slice Try.underlying32 (by kernel_rfl) opens_163) (opensF_cons rfl (by kernel_rfl) (opens_int Try.underlying3) (opensF_cons rfl (by kernel_rfl) (opens_int Try.underlying3) (opensF_one rfl (by kernel_rfl) (opens_slice Try.underlying29 (by kernel_rfl) opens_34)))))) : Opens Try.prog 69 (Kd.pair (Kd.int .i64) (Kd.pair (Kd.slice 163 k163) (Kd.pair (Kd.int .i64) (Kd.pair (Kd.int .i64) (Kd.slice 34 k34))))) _) _ _ _ _ _ _ _ hf0
 obtain ⟨a0_0, l0_1, a0_2, a0_3, l0_4⟩ := x0
 have hcs0 : ∃ A0_1 c0_1, ∃ A0_4 c0_4, cs0.toList = [.int .i64 a0_0, .slice A0_1 l0_1.length c0_1, .int .i64 a0_2, .int .i64 a0_3, .slice A0_4 l0_4.length c0_4] ∧ l0_1.length ≤ c0_1 ∧ Kd.C k163 W A0_1 l0_1.length l0_1 ∧ l0_4.length ≤ c0_4 ∧ Kd.C k34 W A0_4 l0_4.length l0_4 := by
  have hK := hK0
  change Kd.K _ W _ cs0.toList at hK
  generalize cs0.toList = z_ at hK ⊢
  obtain ⟨_, _, rfl, rfl, ⟨_, _, rfl, ⟨A0_1, c0_1, rfl, hc0_1, hr0_1⟩, ⟨_, _, rfl, rfl, ⟨_, _, rfl, rfl, ⟨A0_4, c0_4, rfl, hc0_4, hr0_4⟩⟩⟩⟩⟩ := hK
  exact ⟨A0_1, c0_1, A0_4, c0_4, rfl, hc0_1, hr0_1, hc0_4, hr0_4⟩
 obtain ⟨A0_1, c0_1, A0_4, c0_4, hcs0, hc0_1, hr0_1, hc0_4, hr0_4⟩ := hcs0
 obtain rfl : cs0 = #[.int .i64 a0_0, .slice A0_1 l0_1.length c0_1, .int .i64 a0_2, .int .i64 a0_3, .slice A0_4 l0_4.length c0_4] := by rw [← hcs0]
 have k1 := h1
 have lt1 : ∀ x ∈ p1, x.block < W.heap.size := by obtain ⟨m, hm⟩ := k1; exact DataW.trod_lt m _ _ _ hm
 obtain ⟨cs1, rfl, hcz1⟩ := okWide_struct Try.underlying34 (hval 1 34 v1 rfl rfl)
 obtain ⟨f1, hf1⟩ := h1
 obtain ⟨x1, hK1, hB1⟩ := (opens_struct Try.underlying34 (by kernel_rfl) (opensF_cons rfl (by kernel_rfl) (opens_slice Try.underlying32 (by kernel_rfl) opens_163) (opensF_cons rfl (by kernel_rfl) (opens_int Try.underlying3) (opensF_cons rfl (by kernel_rfl) (opens_int Try.underlying3) (opensF_one rfl (by kernel_rfl) (opens_string Try.underlying9))))) : Opens Try.prog 34 (Kd.pair (Kd.slice 163 k163) (Kd.pair (Kd.int .i64) (Kd.pair (Kd.int .i64) Kd.string))) _) _ _ _ _ _ _ _ hf1
 obtain ⟨l1_0, a1_1, a1_2, a1_3⟩ := x1
 have hcs1 : ∃ A1_0 c1_0, cs1.toList = [.slice A1_0 l1_0.length c1_0, .int .i64 a1_1, .int .i64 a1_2, .string a1_3] ∧ l1_0.length ≤ c1_0 ∧ Kd.C k163 W A1_0 l1_0.length l1_0 := by
  have hK := hK1
  change Kd.K _ W _ cs1.toList at hK
  generalize cs1.toList = z_ at hK ⊢
  obtain ⟨_, _, rfl, ⟨A1_0, c1_0, rfl, hc1_0, hr1_0⟩, ⟨_, _, rfl, rfl, ⟨_, _, rfl, rfl, rfl⟩⟩⟩ := hK
  exact ⟨A1_0, c1_0, rfl, hc1_0, hr1_0⟩
 obtain ⟨A1_0, c1_0, hcs1, hc1_0, hr1_0⟩ := hcs1
 obtain rfl : cs1 = #[.slice A1_0 l1_0.length c1_0, .int .i64 a1_1, .int .i64 a1_2, .string a1_3] := by rw [← hcs1]
 obtain ⟨k, h⟩ := pure_FnExactJoinIn a0_0 l0_1 a0_2 a0_3 l0_4 l1_0 a1_1 a1_2 a1_3 hB0.1 hB0.2.1 hB0.2.2.1 hB0.2.2.2.1 hB0.2.2.2.2 hB1.1 hB1.2.1 hB1.2.2.1 hB1.2.2.2
 clear hA0 hval0 hsz0
 refine (Print.laws_FnExactJoinIn.calls (k := k) (r := true) (w := W) (hr0_1 := hr0_1) (hc0_1 := hc0_1) (hr0_4 := hr0_4) (hc0_4 := hc0_4) (hr1_0 := hr1_0) (hc1_0 := hc1_0) (h := h)).mono fun e W' ⟨he, bel0⟩ => ?_
 have bel : Below W.heap.size W W' := bel0
 subst he
 exact ⟨_, rfl, _, _, _, [], _, [], hW', trodAll_mk1 (shut_bool Try.underlying4 _), (trodAll_cons_mk (Below.trod laidOut (by kernel_rfl) (of_decide_eq_true (by kernel_rfl)) k0 bel lt0) (trodAll_cons_mk (Below.trod laidOut (by kernel_rfl) (of_decide_eq_true (by kernel_rfl)) k1 bel lt1) trodAll_mk0)), rfl, bel.frame _, fun h => by cases h⟩
theorem over : Rows.fnExactJoinInRow.holds Try.pinned (OpenSpec.ofChange Rows.fnExactJoinInSpec) :=
 OpenClaim.holds_of_wide 9 Try.f9 rfl rfl rfl rfl rfl rfl rfl ⟨rfl, rfl, rfl, rfl, rfl⟩ rfl rfl rfl rfl rfl (by kernel_rfl) Try.func9 (by kernel_rfl)
  (of_decide_eq_true (by kernel_rfl)) (by unfold Func.isWrapper; first | (rw [if_pos (by decide +kernel)]; kernel_rfl) | (rw [if_neg (by decide +kernel)]; exact ⟨rfl, rfl⟩))
  (fun os started H enc _ => lifted os started H enc)
theorem proved : Rows.FnExactJoinInSaid := over
#print axioms proved
end Go.Proofs.Ytfholjcelnkleaa.fnExactJoinIn
namespace Go.Proofs.Ytfholjcelnkleaa
/-- The row, under a short name, for the claim. -/
theorem fnExactJoinIn_holds : Rows.FnExactJoinInSaid := fnExactJoinIn.proved
end Go.Proofs.Ytfholjcelnkleaa
