import Derived.Test.YticgekgojgkbgaaRows
import Derived.Test.YticgekgojgkbgaaMFnExactPutAlarm5
/- For every input the law FnExactPutAlarm returns true, and its arguments read behind the call as they read before. No condition. -/
-- Written by printx.py, a program of this session (wip/gen), over the kit's print.py.
namespace Go.Proofs.Yticgekgojgkbgaa.fnExactPutAlarm
open Go.ChangeShapes Go.WideShapes Go.ChangeAt Go.RowKit
open Go.ChangeMaps (open_string shut_string)
open Go.Proofs.Yticgekgojgkbgaa.Print Go.Proofs.YticgekgojgkbgaaV.PrintWords
set_option linter.unusedVariables false
theorem own : ownKnob Try.prog.godebug = none := by kernel_rfl
theorem laidOut : laidOutB Try.prog = true := by kernel_rfl
set_option maxRecDepth 100000 in
theorem lifted (os : Os) (started : os.Started) (H : Type) (enc : TypeId × Value → H) :
  ReturnsInHanded {} Try.checked os 10 .any (Rows.fnExactPutAlarmSpec.pre6 enc Try.prog Try.f10 Rows.fnExactPutAlarmRow.domain false) (Rows.fnExactPutAlarmSpec.post enc Try.prog Try.f10 false true false false) := by
 refine returnsInHanded_of_change_sized (C := Try.checked) own started (by kernel_rfl) Try.func10
  (ChangeSpec.witness6 (enc := enc) (C := Try.checked) false ⟨#[], #[.slice none 0 0, (.agg #[(.slice none 0 0), (.int .i64 0), (.int .i64 0), (.string ⟨#[]⟩)])], []⟩ 12 (by kernel_rfl) (by kernel_rfl) (by kernel_rfl) (by kernel_rfl)) ?_
 intro W base args ds gs before hval0 hW hcnd hsz0 _
 have hval : ∀ (j : Nat) t v, Try.f10.params[j]? = some t → args[j]? = some v → Value.okWide Try.prog W .any base t v := hval0
 have hW' := hW
 obtain ⟨p, q, hA0, hV, rfl, hfz, hnd⟩ := hW
 have hA : DataW.TrodAll enc Try.prog W 0 (fun _ => true) true Try.f10.params.toList args.toList ds p := hA0
 rw [Try.params10] at hA hval
 obtain ⟨v0, vs0, d0, ds0, p0, q0, hargs, rfl, rfl, h0, r0⟩ := trodAll_cons hA
 obtain ⟨v1, vs1, d1, ds1, p1, q1, rfl, rfl, rfl, h1, r1⟩ := trodAll_cons r0
 obtain ⟨rfl, rfl, rfl⟩ := trodAll_nil r1
 obtain rfl : args = #[v0, v1] := by cases args; simp_all
 obtain ⟨rfl, rfl⟩ := trodVars_none hV
 have k0 := h0
 have lt0 : ∀ x ∈ p0, x.block < W.heap.size := by obtain ⟨m, hm⟩ := k0; exact DataW.trod_lt m _ _ _ hm
 obtain ⟨a0, len0, cap0, rfl⟩ := okWide_slice Try.underlying22 (hval 0 22 v0 rfl rfl)
 obtain ⟨f0, hf0⟩ := h0
 obtain ⟨l0, ⟨A0, c0, he0, hc0, hr0⟩, hB0⟩ := (opens_slice Try.underlying22 (by kernel_rfl) opens_52) _ _ _ _ _ _ _ hf0
 obtain ⟨rfl, rfl, rfl⟩ : a0 = A0 ∧ len0 = l0.length ∧ cap0 = c0 := by simpa [Value.cells] using he0
 have k1 := h1
 have lt1 : ∀ x ∈ p1, x.block < W.heap.size := by obtain ⟨m, hm⟩ := k1; exact DataW.trod_lt m _ _ _ hm
 obtain ⟨cs1, rfl, hcz1⟩ := okWide_struct Try.underlying35 (hval 1 35 v1 rfl rfl)
 obtain ⟨f1, hf1⟩ := h1
 obtain ⟨x1, hK1, hB1⟩ := (opens_struct Try.underlying35 (by kernel_rfl) (opensF_cons rfl (by kernel_rfl) (opens_slice Try.underlying23 (by kernel_rfl) opens_85) (opensF_cons rfl (by kernel_rfl) (opens_int Try.underlying3) (opensF_cons rfl (by kernel_rfl) (opens_int Try.underlying3) (opensF_one rfl (by kernel_rfl) (opens_string Try.underlying9))))) : Opens Try.prog 35 (Kd.pair (Kd.slice 85 k85) (Kd.pair (Kd.int .i64) (Kd.pair (Kd.int .i64) Kd.string))) _) _ _ _ _ _ _ _ hf1
 obtain ⟨l1_0, a1_1, a1_2, a1_3⟩ := x1
 have hcs1 : ∃ A1_0 c1_0, cs1.toList = [.slice A1_0 l1_0.length c1_0, .int .i64 a1_1, .int .i64 a1_2, .string a1_3] ∧ l1_0.length ≤ c1_0 ∧ Kd.C k85 W A1_0 l1_0.length l1_0 := by
  have hK := hK1
  change Kd.K _ W _ cs1.toList at hK
  generalize cs1.toList = z_ at hK ⊢
  obtain ⟨_, _, rfl, ⟨A1_0, c1_0, rfl, hc1_0, hr1_0⟩, ⟨_, _, rfl, rfl, ⟨_, _, rfl, rfl, rfl⟩⟩⟩ := hK
  exact ⟨A1_0, c1_0, rfl, hc1_0, hr1_0⟩
 obtain ⟨A1_0, c1_0, hcs1, hc1_0, hr1_0⟩ := hcs1
 obtain rfl : cs1 = #[.slice A1_0 l1_0.length c1_0, .int .i64 a1_1, .int .i64 a1_2, .string a1_3] := by rw [← hcs1]
 obtain ⟨k, h⟩ := pure_FnExactPutAlarm l0 l1_0 a1_1 a1_2 a1_3 hB0 hB1.1 hB1.2.1 hB1.2.2.1 hB1.2.2.2
 clear hA0 hval0 hsz0
 refine (Print.laws_FnExactPutAlarm.calls (k := k) (r := true) (w := W) (hr0 := hr0) (hc0 := hc0) (hr1_0 := hr1_0) (hc1_0 := hc1_0) (h := h)).mono fun e W' ⟨he, bel0⟩ => ?_
 have bel : Below W.heap.size W W' := bel0
 subst he
 exact ⟨_, rfl, _, _, _, [], _, [], hW', trodAll_mk1 (shut_bool Try.underlying4 _), (trodAll_cons_mk (Below.trod laidOut (by kernel_rfl) (of_decide_eq_true (by kernel_rfl)) k0 bel lt0) (trodAll_cons_mk (Below.trod laidOut (by kernel_rfl) (of_decide_eq_true (by kernel_rfl)) k1 bel lt1) trodAll_mk0)), rfl, bel.frame _, fun h => by cases h⟩
theorem over : Rows.fnExactPutAlarmRow.holds Try.pinned (OpenSpec.ofChange Rows.fnExactPutAlarmSpec) :=
 OpenClaim.holds_of_wide 10 Try.f10 rfl rfl rfl rfl rfl rfl rfl ⟨rfl, rfl, rfl, rfl, rfl⟩ rfl rfl rfl rfl rfl (by kernel_rfl) Try.func10 (by kernel_rfl)
  (of_decide_eq_true (by kernel_rfl)) (by unfold Func.isWrapper; first | (rw [if_pos (by decide +kernel)]; kernel_rfl) | (rw [if_neg (by decide +kernel)]; exact ⟨rfl, rfl⟩))
  (fun os started H enc _ => lifted os started H enc)
theorem proved : Rows.FnExactPutAlarmSaid := over
#print axioms proved
end Go.Proofs.Yticgekgojgkbgaa.fnExactPutAlarm
namespace Go.Proofs.Yticgekgojgkbgaa
/-- The row, under a short name, for the claim. -/
theorem fnExactPutAlarm_holds : Rows.FnExactPutAlarmSaid := fnExactPutAlarm.proved
end Go.Proofs.Yticgekgojgkbgaa
