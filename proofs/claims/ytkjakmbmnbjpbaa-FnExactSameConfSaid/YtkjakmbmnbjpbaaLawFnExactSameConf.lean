/- For every input the law FnExactSameConf returns true, and its arguments read behind the call as they read before. No condition. -/
-- Written by printx.py, a program of this session (wip/gen), over the kit's print.py.
import Derived.Test.YtkjakmbmnbjpbaaRows
import Derived.Test.YtkjakmbmnbjpbaaSFnExactSameConf
import Derived.Test.YtkjakmbmnbjpbaaPureFnExactSameConf
namespace Go.Proofs.Ytkjakmbmnbjpbaa.fnExactSameConf
open Go.ChangeShapes Go.WideShapes Go.ChangeAt Go.RowKit
open Go.ChangeMaps (open_string shut_string)
open Go.Proofs.Ytkjakmbmnbjpbaa.Print Go.Proofs.YtkjakmbmnbjpbaaV.PrintWords
set_option linter.unusedVariables false
theorem own : ownKnob Try.prog.godebug = none := by kernel_rfl
theorem laidOut : laidOutB Try.prog = true := by kernel_rfl
set_option maxRecDepth 100000 in
theorem lifted (os : Os) (started : os.Started) (H : Type) (enc : TypeId × Value → H) :
  ReturnsInHanded {} Try.checked os 6 .any (Rows.fnExactSameConfSpec.pre6 enc Try.prog Try.f6 Rows.fnExactSameConfRow.domain false) (Rows.fnExactSameConfSpec.post enc Try.prog Try.f6 false true false false) := by
 refine returnsInHanded_of_change_sized (C := Try.checked) own started (by kernel_rfl) Try.func6
  (ChangeSpec.witness6 (enc := enc) (C := Try.checked) false ⟨#[], #[(.agg #[(.int .i64 0), (.int .i64 0), (.int .i64 0), (.int .i64 0), (.int .i64 0), (.slice none 0 0)]), (.agg #[(.int .i64 0), (.int .i64 0), (.int .i64 0), (.int .i64 0), (.int .i64 0), (.slice none 0 0)])], []⟩ 12 (by kernel_rfl) (by kernel_rfl) (by kernel_rfl) (by kernel_rfl)) ?_
 intro W base args ds gs before hval0 hW hcnd hsz0 _
 have hval : ∀ (j : Nat) t v, Try.f6.params[j]? = some t → args[j]? = some v → Value.okWide Try.prog W .any base t v := hval0
 have hW' := hW
 obtain ⟨p, q, hA0, hV, rfl, hfz, hnd⟩ := hW
 have hA : DataW.TrodAll enc Try.prog W 0 (fun _ => true) true Try.f6.params.toList args.toList ds p := hA0
 rw [Try.params6] at hA hval
 obtain ⟨v0, vs0, d0, ds0, p0, q0, hargs, rfl, rfl, h0, r0⟩ := trodAll_cons hA
 obtain ⟨v1, vs1, d1, ds1, p1, q1, rfl, rfl, rfl, h1, r1⟩ := trodAll_cons r0
 obtain ⟨rfl, rfl, rfl⟩ := trodAll_nil r1
 obtain rfl : args = #[v0, v1] := by cases args; simp_all
 obtain ⟨rfl, rfl⟩ := trodVars_none hV
 have k0 := h0
 have lt0 : ∀ x ∈ p0, x.block < W.heap.size := by obtain ⟨m, hm⟩ := k0; exact DataW.trod_lt m _ _ _ hm
 obtain ⟨cs0, rfl, hcz0⟩ := okWide_struct Try.underlying40 (hval 0 40 v0 rfl rfl)
 obtain ⟨f0, hf0⟩ := h0
 obtain ⟨x0, hK0, hB0⟩ := (opens_struct Try.underlying40 (by kernel_rfl) (opensF_cons rfl (by kernel_rfl) (opens_int Try.underlying3) (opensF_cons rfl (by kernel_rfl) (opens_int Try.underlying3) (opensF_cons rfl (by kernel_rfl) (opens_int Try.underlying3) (opensF_cons rfl (by kernel_rfl) (opens_int Try.underlying3) (opensF_cons rfl (by kernel_rfl) (opens_int Try.underlying3) (opensF_one rfl (by kernel_rfl) (opens_slice Try.underlying38 (by kernel_rfl) (opens_string Try.underlying9)))))))) : Opens Try.prog 40 (Kd.pair (Kd.int .i64) (Kd.pair (Kd.int .i64) (Kd.pair (Kd.int .i64) (Kd.pair (Kd.int .i64) (Kd.pair (Kd.int .i64) (Kd.slice 9 Kd.string)))))) _) _ _ _ _ _ _ _ hf0
 obtain ⟨a0_0, a0_1, a0_2, a0_3, a0_4, l0_5⟩ := x0
 have hcs0 : ∃ A0_5 c0_5, cs0.toList = [.int .i64 a0_0, .int .i64 a0_1, .int .i64 a0_2, .int .i64 a0_3, .int .i64 a0_4, .slice A0_5 l0_5.length c0_5] ∧ l0_5.length ≤ c0_5 ∧ Kd.C Kd.string W A0_5 l0_5.length l0_5 := by
  have hK := hK0
  change Kd.K _ W _ cs0.toList at hK
  generalize cs0.toList = z_ at hK ⊢
  obtain ⟨_, _, rfl, rfl, ⟨_, _, rfl, rfl, ⟨_, _, rfl, rfl, ⟨_, _, rfl, rfl, ⟨_, _, rfl, rfl, ⟨A0_5, c0_5, rfl, hc0_5, hr0_5⟩⟩⟩⟩⟩⟩ := hK
  exact ⟨A0_5, c0_5, rfl, hc0_5, hr0_5⟩
 obtain ⟨A0_5, c0_5, hcs0, hc0_5, hr0_5⟩ := hcs0
 obtain rfl : cs0 = #[.int .i64 a0_0, .int .i64 a0_1, .int .i64 a0_2, .int .i64 a0_3, .int .i64 a0_4, .slice A0_5 l0_5.length c0_5] := by rw [← hcs0]
 have k1 := h1
 have lt1 : ∀ x ∈ p1, x.block < W.heap.size := by obtain ⟨m, hm⟩ := k1; exact DataW.trod_lt m _ _ _ hm
 obtain ⟨cs1, rfl, hcz1⟩ := okWide_struct Try.underlying40 (hval 1 40 v1 rfl rfl)
 obtain ⟨f1, hf1⟩ := h1
 obtain ⟨x1, hK1, hB1⟩ := (opens_struct Try.underlying40 (by kernel_rfl) (opensF_cons rfl (by kernel_rfl) (opens_int Try.underlying3) (opensF_cons rfl (by kernel_rfl) (opens_int Try.underlying3) (opensF_cons rfl (by kernel_rfl) (opens_int Try.underlying3) (opensF_cons rfl (by kernel_rfl) (opens_int Try.underlying3) (opensF_cons rfl (by kernel_rfl) (opens_int Try.underlying3) (opensF_one rfl (by kernel_rfl) (opens_slice Try.underlying38 (by kernel_rfl) (opens_string Try.underlying9)))))))) : Opens Try.prog 40 (Kd.pair (Kd.int .i64) (Kd.pair (Kd.int .i64) (Kd.pair (Kd.int .i64) (Kd.pair (Kd.int .i64) (Kd.pair (Kd.int .i64) (Kd.slice 9 Kd.string)))))) _) _ _ _ _ _ _ _ hf1
 obtain ⟨a1_0, a1_1, a1_2, a1_3, a1_4, l1_5⟩ := x1
 have hcs1 : ∃ A1_5 c1_5, cs1.toList = [.int .i64 a1_0, .int .i64 a1_1, .int .i64 a1_2, .int .i64 a1_3, .int .i64 a1_4, .slice A1_5 l1_5.length c1_5] ∧ l1_5.length ≤ c1_5 ∧ Kd.C Kd.string W A1_5 l1_5.length l1_5 := by
  have hK := hK1
  change Kd.K _ W _ cs1.toList at hK
  generalize cs1.toList = z_ at hK ⊢
  obtain ⟨_, _, rfl, rfl, ⟨_, _, rfl, rfl, ⟨_, _, rfl, rfl, ⟨_, _, rfl, rfl, ⟨_, _, rfl, rfl, ⟨A1_5, c1_5, rfl, hc1_5, hr1_5⟩⟩⟩⟩⟩⟩ := hK
  exact ⟨A1_5, c1_5, rfl, hc1_5, hr1_5⟩
 obtain ⟨A1_5, c1_5, hcs1, hc1_5, hr1_5⟩ := hcs1
 obtain rfl : cs1 = #[.int .i64 a1_0, .int .i64 a1_1, .int .i64 a1_2, .int .i64 a1_3, .int .i64 a1_4, .slice A1_5 l1_5.length c1_5] := by rw [← hcs1]
 obtain ⟨k, h⟩ := pure_FnExactSameConf a0_0 a0_1 a0_2 a0_3 a0_4 l0_5 a1_0 a1_1 a1_2 a1_3 a1_4 l1_5 hB0.1 hB0.2.1 hB0.2.2.1 hB0.2.2.2.1 hB0.2.2.2.2.1 hB0.2.2.2.2.2 hB1.1 hB1.2.1 hB1.2.2.1 hB1.2.2.2.1 hB1.2.2.2.2.1 hB1.2.2.2.2.2
 clear hA0 hval0 hsz0
 refine (Print.laws_FnExactSameConf.calls (k := k) (r := true) (w := W) (hr0_5 := hr0_5) (hc0_5 := hc0_5) (hr1_5 := hr1_5) (hc1_5 := hc1_5) (h := h)).mono fun e W' ⟨he, bel0⟩ => ?_
 have bel : Below W.heap.size W W' := bel0
 subst he
 exact ⟨_, rfl, _, _, _, [], _, [], hW', trodAll_mk1 (shut_bool Try.underlying4 _), (trodAll_cons_mk (Below.trod laidOut (by kernel_rfl) (of_decide_eq_true (by kernel_rfl)) k0 bel lt0) (trodAll_cons_mk (Below.trod laidOut (by kernel_rfl) (of_decide_eq_true (by kernel_rfl)) k1 bel lt1) trodAll_mk0)), rfl, bel.frame _, fun h => by cases h⟩
theorem over : Rows.fnExactSameConfRow.holds Try.pinned (OpenSpec.ofChange Rows.fnExactSameConfSpec) :=
 OpenClaim.holds_of_wide 6 Try.f6 rfl rfl rfl rfl rfl rfl rfl ⟨rfl, rfl, rfl, rfl, rfl⟩ rfl rfl rfl rfl rfl (by kernel_rfl) Try.func6 (by kernel_rfl)
  (of_decide_eq_true (by kernel_rfl)) (by unfold Func.isWrapper; first | (rw [if_pos (by decide +kernel)]; kernel_rfl) | (rw [if_neg (by decide +kernel)]; exact ⟨rfl, rfl⟩))
  (fun os started H enc _ => lifted os started H enc)
theorem proved : Rows.FnExactSameConfSaid := over
#print axioms proved
end Go.Proofs.Ytkjakmbmnbjpbaa.fnExactSameConf
namespace Go.Proofs.Ytkjakmbmnbjpbaa
/-- The row, under a short name, for the claim. -/
theorem fnExactSameConf_holds : Rows.FnExactSameConfSaid := fnExactSameConf.proved
end Go.Proofs.Ytkjakmbmnbjpbaa
