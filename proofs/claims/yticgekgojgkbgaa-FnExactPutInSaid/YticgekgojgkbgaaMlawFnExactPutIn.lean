import Derived.Test.YticgekgojgkbgaaRows
import Derived.Test.YticgekgojgkbgaaMFnExactPutIn5
import Derived.Test.YticgekgojgkbgaaMFnExactPutIn6
/- For every input the law FnExactPutIn returns true, and its arguments read behind the call as they read before. No condition. -/
-- Written by printx.py, a program of this session (wip/gen), over the kit's print.py.
namespace Go.Proofs.Yticgekgojgkbgaa.fnExactPutIn
open Go.ChangeShapes Go.WideShapes Go.ChangeAt Go.RowKit
open Go.ChangeMaps (open_string shut_string)
open Go.Proofs.Yticgekgojgkbgaa.Print Go.Proofs.YticgekgojgkbgaaV.PrintWords
set_option linter.unusedVariables false
theorem own : ownKnob Try.prog.godebug = none := by kernel_rfl
theorem laidOut : laidOutB Try.prog = true := by kernel_rfl
set_option maxRecDepth 100000 in
theorem lifted (os : Os) (started : os.Started) (H : Type) (enc : TypeId × Value → H) :
  ReturnsInHanded {} Try.checked os 9 .any (Rows.fnExactPutInSpec.pre6 enc Try.prog Try.f9 Rows.fnExactPutInRow.domain false) (Rows.fnExactPutInSpec.post enc Try.prog Try.f9 false true false false) := by
 refine returnsInHanded_of_change_sized (C := Try.checked) own started (by kernel_rfl) Try.func9
  (ChangeSpec.witness6 (enc := enc) (C := Try.checked) false ⟨#[], #[(.agg #[(.int .i64 0), (.int .i64 0), (.slice none 0 0)]), (.agg #[(.slice none 0 0), (.int .i64 0), (.int .i64 0), (.string ⟨#[]⟩)])], []⟩ 12 (by kernel_rfl) (by kernel_rfl) (by kernel_rfl) (by kernel_rfl)) ?_
 intro W base args ds gs before hval0 hW hcnd hsz0 _
 have hval : ∀ (j : Nat) t v, Try.f9.params[j]? = some t → args[j]? = some v → Value.okWide Try.prog W .any base t v := hval0
 have hW' := hW
 obtain ⟨p, q, hA0, hV, rfl, hfz, hnd⟩ := hW
 have hA : DataW.TrodAll enc Try.prog W 0 (fun _ => true) true Try.f9.params.toList args.toList ds p := hA0
 rw [Try.params9] at hA hval
 obtain ⟨v0, vs0, d0, ds0, p0, q0, hargs, rfl, rfl, h0, r0⟩ := trodAll_cons hA
 obtain ⟨v1, vs1, d1, ds1, p1, q1, rfl, rfl, rfl, h1, r1⟩ := trodAll_cons r0
 obtain ⟨rfl, rfl, rfl⟩ := trodAll_nil r1
 obtain rfl : args = #[v0, v1] := by cases args; simp_all
 obtain ⟨rfl, rfl⟩ := trodVars_none hV
 have k0 := h0
 have lt0 : ∀ x ∈ p0, x.block < W.heap.size := by obtain ⟨m, hm⟩ := k0; exact DataW.trod_lt m _ _ _ hm
 obtain ⟨cs0, rfl, hcz0⟩ := okWide_struct Try.underlying52 (hval 0 52 v0 rfl rfl)
 obtain ⟨f0, hf0⟩ := h0
 obtain ⟨x0, hK0, hB0⟩ := (opens_struct Try.underlying52 (by kernel_rfl) (opensF_cons rfl (by kernel_rfl) (opens_int Try.underlying3) (opensF_cons rfl (by kernel_rfl) (opens_int Try.underlying3) (opensF_one rfl (by kernel_rfl) (opens_slice Try.underlying50 (by kernel_rfl) opens_119)))) : Opens Try.prog 52 (Kd.pair (Kd.int .i64) (Kd.pair (Kd.int .i64) (Kd.slice 119 k119))) _) _ _ _ _ _ _ _ hf0
 obtain ⟨a0_0, a0_1, l0_2⟩ := x0
 have hcs0 : ∃ A0_2 c0_2, cs0.toList = [.int .i64 a0_0, .int .i64 a0_1, .slice A0_2 l0_2.length c0_2] ∧ l0_2.length ≤ c0_2 ∧ Kd.C k119 W A0_2 l0_2.length l0_2 := by
  have hK := hK0
  change Kd.K _ W _ cs0.toList at hK
  generalize cs0.toList = z_ at hK ⊢
  obtain ⟨_, _, rfl, rfl, ⟨_, _, rfl, rfl, ⟨A0_2, c0_2, rfl, hc0_2, hr0_2⟩⟩⟩ := hK
  exact ⟨A0_2, c0_2, rfl, hc0_2, hr0_2⟩
 obtain ⟨A0_2, c0_2, hcs0, hc0_2, hr0_2⟩ := hcs0
 obtain rfl : cs0 = #[.int .i64 a0_0, .int .i64 a0_1, .slice A0_2 l0_2.length c0_2] := by rw [← hcs0]
 have k1 := h1
 have lt1 : ∀ x ∈ p1, x.block < W.heap.size := by obtain ⟨m, hm⟩ := k1; exact DataW.trod_lt m _ _ _ hm
 obtain ⟨cs1, rfl, hcz1⟩ := okWide_struct Try.underlying35 (hval 1 35 v1 rfl rfl)
 obtain ⟨f1, hf1⟩ := h1
 obtain ⟨x1, hK1, hB1⟩ := (opens_struct Try.underlying35 (by kernel_rfl) (opensF_cons rfl (by kernel_rfl) (opens_slice Try.underlying23 (by kernel_rfl) opens_85) (opensF_cons rfl (by kernel_rfl) (opens_int Try.underlying3) (opensF_cons rfl (by kernel_rfl) (opens_int Try.underlying3) (opensF_one rfl (by kernel_rfl) (opens_string Try.underlying9))))) : Opens Try.prog 35 (Kd.pair (Kd.slice 85 k85) (Kd.pair (Kd.int .i64) (Kd.pair (Kd.int .i64) Kd.string))) _) _ _ _ _ _ _ _ hf1
 obtain ⟨l1_0, a1_1, a1_2, a1_3⟩ := x1
 have hcs1 : ∃ A1_0 c1_0, cs1.toList = [.slice A1_0 l1_0.length c1_0, .int .i64 a1_1, .int .i64 a1_2, .string a1_3] ∧ l1_0.length ≤ c1_0 ∧ Kd.C k85 W A1_0 l1_0.length l1_0 := by
  have hK := hK1
  change Kd.K _ W _ cs1.toList at hK
  generalize cs1.toList = z_ at hK ⊢
  obtain ⟨_, _, rfl, ⟨A1_0, c1_0, rfl, hc1_0, hr1_0⟩, ⟨_, _, rfl, rfl, ⟨_, _, rfl, rfl, rfl⟩⟩⟩ := hK
  exact ⟨A1_0, c1_0, rfl, hc1_0, hr1_0⟩
 obtain ⟨A1_0, c1_0, hcs1, hc1_0, hr1_0⟩ := hcs1
 obtain rfl : cs1 = #[.slice A1_0 l1_0.length c1_0, .int .i64 a1_1, .int .i64 a1_2, .string a1_3] := by rw [← hcs1]
 obtain ⟨k, h⟩ := pure_FnExactPutIn a0_0 a0_1 l0_2 l1_0 a1_1 a1_2 a1_3 hB0.1 hB0.2.1 hB0.2.2 hB1.1 hB1.2.1 hB1.2.2.1 hB1.2.2.2
 clear hA0 hval0 hsz0
 refine (Print.laws_FnExactPutIn.calls (k := k) (r := true) (w := W) (hr0_2 := hr0_2) (hc0_2 := hc0_2) (hr1_0 := hr1_0) (hc1_0 := hc1_0) (h := h)).mono fun e W' ⟨he, bel0⟩ => ?_
 have bel : Below W.heap.size W W' := bel0
 subst he
 exact ⟨_, rfl, _, _, _, [], _, [], hW', trodAll_mk1 (shut_bool Try.underlying4 _), (trodAll_cons_mk (Below.trod laidOut (by kernel_rfl) (of_decide_eq_true (by kernel_rfl)) k0 bel lt0) (trodAll_cons_mk (Below.trod laidOut (by kernel_rfl) (of_decide_eq_true (by kernel_rfl)) k1 bel lt1) trodAll_mk0)), rfl, bel.frame _, fun h => by cases h⟩
theorem over : Rows.fnExactPutInRow.holds Try.pinned (OpenSpec.ofChange Rows.fnExactPutInSpec) :=
 OpenClaim.holds_of_wide 9 Try.f9 rfl rfl rfl rfl rfl rfl rfl ⟨rfl, rfl, rfl, rfl, rfl⟩ rfl rfl rfl rfl rfl (by kernel_rfl) Try.func9 (by kernel_rfl)
  (of_decide_eq_true (by kernel_rfl)) (by unfold Func.isWrapper; first | (rw [if_pos (by decide +kernel)]; kernel_rfl) | (rw [if_neg (by decide +kernel)]; exact ⟨rfl, rfl⟩))
  (fun os started H enc _ => lifted os started H enc)
theorem proved : Rows.FnExactPutInSaid := over
#print axioms proved
end Go.Proofs.Yticgekgojgkbgaa.fnExactPutIn
namespace Go.Proofs.Yticgekgojgkbgaa
/-- The row, under a short name, for the claim. -/
theorem fnExactPutIn_holds : Rows.FnExactPutInSaid := fnExactPutIn.proved
end Go.Proofs.Yticgekgojgkbgaa
