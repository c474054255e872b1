import Derived.Test.YtfholjcelnkleaaRows
import Derived.Test.YtfholjcelnkleaaMFnExactTaskOk5
/- For every input the law FnExactTaskOk returns true, and its arguments read behind the call as they read before. No condition. -/
-- Written by printx.py, a program of this session (wip/gen), over the kit's print.py.
namespace Go.Proofs.Ytfholjcelnkleaa.fnExactTaskOk
open Go.ChangeShapes Go.WideShapes Go.ChangeAt Go.RowKit
open Go.ChangeMaps (open_string shut_string)
open Go.Proofs.Ytfholjcelnkleaa.Print Go.Proofs.YtfholjcelnkleaaV.PrintWords
set_option linter.unusedVariables false
theorem own : ownKnob Try.prog.godebug = none := by kernel_rfl
theorem laidOut : laidOutB Try.prog = true := by kernel_rfl
set_option maxRecDepth 100000 in
theorem lifted (os : Os) (started : os.Started) (H : Type) (enc : TypeId × Value → H) :
  ReturnsInHanded {} Try.checked os 11 .any (Rows.fnExactTaskOkSpec.pre6 enc Try.prog Try.f11 Rows.fnExactTaskOkRow.domain false) (Rows.fnExactTaskOkSpec.post enc Try.prog Try.f11 false true false false) := by
 refine returnsInHanded_of_change_sized (C := Try.checked) own started (by kernel_rfl) Try.func11
  (ChangeSpec.witness6 (enc := enc) (C := Try.checked) false ⟨#[], #[(.agg #[(.int .i64 0), (.int .i64 0), (.slice none 0 0), (.int .i64 0), (.int .i64 0), (.string ⟨#[]⟩), (.slice none 0 0), (.int .i64 0), (.slice none 0 0), (.slice none 0 0), (.int .i64 0), (.int .i64 0)]), .int .i64 0], []⟩ 12 (by kernel_rfl) (by kernel_rfl) (by kernel_rfl) (by kernel_rfl)) ?_
 intro W base args ds gs before hval0 hW hcnd hsz0 _
 have hval : ∀ (j : Nat) t v, Try.f11.params[j]? = some t → args[j]? = some v → Value.okWide Try.prog W .any base t v := hval0
 have hW' := hW
 obtain ⟨p, q, hA0, hV, rfl, hfz, hnd⟩ := hW
 have hA : DataW.TrodAll enc Try.prog W 0 (fun _ => true) true Try.f11.params.toList args.toList ds p := hA0
 rw [Try.params11] at hA hval
 obtain ⟨v0, vs0, d0, ds0, p0, q0, hargs, rfl, rfl, h0, r0⟩ := trodAll_cons hA
 obtain ⟨v1, vs1, d1, ds1, p1, q1, rfl, rfl, rfl, h1, r1⟩ := trodAll_cons r0
 obtain ⟨rfl, rfl, rfl⟩ := trodAll_nil r1
 obtain rfl : args = #[v0, v1] := by cases args; simp_all
 obtain ⟨rfl, rfl⟩ := trodVars_none hV
 have k0 := h0
 have lt0 : ∀ x ∈ p0, x.block < W.heap.size := by obtain ⟨m, hm⟩ := k0; exact DataW.trod_lt m _ _ _ hm
 obtain ⟨cs0, rfl, hcz0⟩ := okWide_struct Try.underlying93 (hval 0 93 v0 rfl rfl)
 obtain ⟨f0, hf0⟩ := h0
 obtain ⟨x0, hK0, hB0⟩ := (opens_struct Try.underlying93 (by kernel_rfl) (opensF_cons rfl (by kernel_rfl) (opens_int Try.underlying3) (opensF_cons rfl (by kernel_rfl) (opens_int Try.underlying3) (opensF_cons rfl (by kernel_rfl) (opens_struct Try.underlying34 (by kernel_rfl) (opensF_cons rfl (by kernel_rfl) (opens_slice Try.underlying32 (by kernel_rfl) opens_163) (opensF_cons rfl (by kernel_rfl) (opens_int Try.underlying3) (opensF_cons rfl (by kernel_rfl) (opens_int Try.underlying3) (opensF_one rfl (by kernel_rfl) (opens_string Try.underlying9)))))) (opensF_cons rfl (by kernel_rfl) (opens_slice Try.underlying32 (by kernel_rfl) opens_163) (opensF_cons rfl (by kernel_rfl) (opens_int Try.underlying3) (opensF_cons rfl (by kernel_rfl) (opens_slice Try.underlying91 (by kernel_rfl) (opens_int Try.underlying3)) (opensF_cons rfl (by kernel_rfl) (opens_slice Try.underlying29 (by kernel_rfl) opens_34) (opensF_cons rfl (by kernel_rfl) (opens_int Try.underlying3) (opensF_one rfl (by kernel_rfl) (opens_int Try.underlying3)))))))))) : Opens Try.prog 93 (Kd.pair (Kd.int .i64) (Kd.pair (Kd.int .i64) (Kd.pair (Kd.pair (Kd.slice 163 k163) (Kd.pair (Kd.int .i64) (Kd.pair (Kd.int .i64) Kd.string))) (Kd.pair (Kd.slice 163 k163) (Kd.pair (Kd.int .i64) (Kd.pair (Kd.slice 3 (Kd.int .i64)) (Kd.pair (Kd.slice 34 k34) (Kd.pair (Kd.int .i64) (Kd.int .i64))))))))) _) _ _ _ _ _ _ _ hf0
 obtain ⟨a0_0, a0_1, ⟨l0_2, a0_3, a0_4, a0_5⟩, l0_6, a0_7, l0_8, l0_9, a0_10, a0_11⟩ := x0
 have hcs0 : ∃ A0_2 c0_2, ∃ A0_6 c0_6, ∃ A0_8 c0_8, ∃ A0_9 c0_9, cs0.toList = [.int .i64 a0_0, .int .i64 a0_1, .slice A0_2 l0_2.length c0_2, .int .i64 a0_3, .int .i64 a0_4, .string a0_5, .slice A0_6 l0_6.length c0_6, .int .i64 a0_7, .slice A0_8 l0_8.length c0_8, .slice A0_9 l0_9.length c0_9, .int .i64 a0_10, .int .i64 a0_11] ∧ l0_2.length ≤ c0_2 ∧ Kd.C k163 W A0_2 l0_2.length l0_2 ∧ l0_6.length ≤ c0_6 ∧ Kd.C k163 W A0_6 l0_6.length l0_6 ∧ l0_8.length ≤ c0_8 ∧ Kd.C (Kd.int .i64) W A0_8 l0_8.length l0_8 ∧ l0_9.length ≤ c0_9 ∧ Kd.C k34 W A0_9 l0_9.length l0_9 := by
  have hK := hK0
  change Kd.K _ W _ cs0.toList at hK
  generalize cs0.toList = z_ at hK ⊢
  obtain ⟨_, _, rfl, rfl, ⟨_, _, rfl, rfl, ⟨_, _, rfl, ⟨_, _, rfl, ⟨A0_2, c0_2, rfl, hc0_2, hr0_2⟩, ⟨_, _, rfl, rfl, ⟨_, _, rfl, rfl, rfl⟩⟩⟩, ⟨_, _, rfl, ⟨A0_6, c0_6, rfl, hc0_6, hr0_6⟩, ⟨_, _, rfl, rfl, ⟨_, _, rfl, ⟨A0_8, c0_8, rfl, hc0_8, hr0_8⟩, ⟨_, _, rfl, ⟨A0_9, c0_9, rfl, hc0_9, hr0_9⟩, ⟨_, _, rfl, rfl, rfl⟩⟩⟩⟩⟩⟩⟩⟩ := hK
  exact ⟨A0_2, c0_2, A0_6, c0_6, A0_8, c0_8, A0_9, c0_9, rfl, hc0_2, hr0_2, hc0_6, hr0_6, hc0_8, hr0_8, hc0_9, hr0_9⟩
 obtain ⟨A0_2, c0_2, A0_6, c0_6, A0_8, c0_8, A0_9, c0_9, hcs0, hc0_2, hr0_2, hc0_6, hr0_6, hc0_8, hr0_8, hc0_9, hr0_9⟩ := hcs0
 obtain rfl : cs0 = #[.int .i64 a0_0, .int .i64 a0_1, .slice A0_2 l0_2.length c0_2, .int .i64 a0_3, .int .i64 a0_4, .string a0_5, .slice A0_6 l0_6.length c0_6, .int .i64 a0_7, .slice A0_8 l0_8.length c0_8, .slice A0_9 l0_9.length c0_9, .int .i64 a0_10, .int .i64 a0_11] := by rw [← hcs0]
 have k1 := h1
 have lt1 : ∀ x ∈ p1, x.block < W.heap.size := by obtain ⟨m, hm⟩ := k1; exact DataW.trod_lt m _ _ _ hm
 obtain ⟨a1, rfl, rfl, rfl, w1⟩ := open_int Try.underlying3 (hval 1 3 v1 rfl rfl) h1
 obtain ⟨k, h⟩ := pure_FnExactTaskOk a0_0 a0_1 l0_2 a0_3 a0_4 a0_5 l0_6 a0_7 l0_8 l0_9 a0_10 a0_11 a1 hB0.1 hB0.2.1 hB0.2.2.1.1 hB0.2.2.1.2.1 hB0.2.2.1.2.2.1 hB0.2.2.1.2.2.2 hB0.2.2.2.1 hB0.2.2.2.2.1 hB0.2.2.2.2.2.1 hB0.2.2.2.2.2.2.1 hB0.2.2.2.2.2.2.2.1 hB0.2.2.2.2.2.2.2.2 w1
 clear hA0 hval0 hsz0
 refine (Print.laws_FnExactTaskOk.calls (k := k) (r := true) (w := W) (hr0_2 := hr0_2) (hc0_2 := hc0_2) (hr0_6 := hr0_6) (hc0_6 := hc0_6) (hr0_8 := hr0_8) (hc0_8 := hc0_8) (hr0_9 := hr0_9) (hc0_9 := hc0_9) (h := h)).mono fun e W' ⟨he, bel0⟩ => ?_
 have bel : Below W.heap.size W W' := bel0
 subst he
 exact ⟨_, rfl, _, _, _, [], _, [], hW', trodAll_mk1 (shut_bool Try.underlying4 _), (trodAll_cons_mk (Below.trod laidOut (by kernel_rfl) (of_decide_eq_true (by kernel_rfl)) k0 bel lt0) (trodAll_cons_mk (Below.trod laidOut (by kernel_rfl) (of_decide_eq_true (by kernel_rfl)) k1 bel lt1) trodAll_mk0)), rfl, bel.frame _, fun h => by cases h⟩
theorem over : Rows.fnExactTaskOkRow.holds Try.pinned (OpenSpec.ofChange Rows.fnExactTaskOkSpec) :=
 OpenClaim.holds_of_wide 11 Try.f11 rfl rfl rfl rfl rfl rfl rfl ⟨rfl, rfl, rfl, rfl, rfl⟩ rfl rfl rfl rfl rfl (by kernel_rfl) Try.func11 (by kernel_rfl)
  (of_decide_eq_true (by kernel_rfl)) (by unfold Func.isWrapper; first | (rw [if_pos (by decide +kernel)]; kernel_rfl) | (rw [if_neg (by decide +kernel)]; exact ⟨rfl, rfl⟩))
  (fun os started H enc _ => lifted os started H enc)
theorem proved : Rows.FnExactTaskOkSaid := over
#print axioms proved
end Go.Proofs.Ytfholjcelnkleaa.fnExactTaskOk
namespace Go.Proofs.Ytfholjcelnkleaa
/-- The row, under a short name, for the claim. -/
theorem fnExactTaskOk_holds : Rows.FnExactTaskOkSaid := fnExactTaskOk.proved
end Go.Proofs.Ytfholjcelnkleaa
