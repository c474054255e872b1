import Derived.Test.YtfholjcelnkleaaRows
import Derived.Test.YtfholjcelnkleaaMFnExactHear4
import Derived.Test.YtfholjcelnkleaaMFnExactHear6
/- For every input the law FnExactHear returns true, and its arguments read behind the call as they read before. No condition. -/
-- Written by printx.py, a program of this session (wip/gen), over the kit's print.py.
namespace Go.Proofs.Ytfholjcelnkleaa.fnExactHear
open Go.ChangeShapes Go.WideShapes Go.ChangeAt Go.RowKit
open Go.ChangeMaps (open_string shut_string)
open Go.Proofs.Ytfholjcelnkleaa.Print Go.Proofs.YtfholjcelnkleaaV.PrintWords
set_option linter.unusedVariables false
theorem own : ownKnob Try.prog.godebug = none := by kernel_rfl
theorem laidOut : laidOutB Try.prog = true := by kernel_rfl
set_option maxRecDepth 100000 in
theorem lifted (os : Os) (started : os.Started) (H : Type) (enc : TypeId × Value → H) :
  ReturnsInHanded {} Try.checked os 5 .any (Rows.fnExactHearSpec.pre6 enc Try.prog Try.f5 Rows.fnExactHearRow.domain false) (Rows.fnExactHearSpec.post enc Try.prog Try.f5 false true false false) := by
 refine returnsInHanded_of_change_sized (C := Try.checked) own started (by kernel_rfl) Try.func5
  (ChangeSpec.witness6 (enc := enc) (C := Try.checked) false ⟨#[], #[(.agg #[(.slice none 0 0), (.bool false)])], []⟩ 12 (by kernel_rfl) (by kernel_rfl) (by kernel_rfl) (by kernel_rfl)) ?_
 intro W base args ds gs before hval0 hW hcnd hsz0 _
 have hval : ∀ (j : Nat) t v, Try.f5.params[j]? = some t → args[j]? = some v → Value.okWide Try.prog W .any base t v := hval0
 have hW' := hW
 obtain ⟨p, q, hA0, hV, rfl, hfz, hnd⟩ := hW
 have hA : DataW.TrodAll enc Try.prog W 0 (fun _ => true) true Try.f5.params.toList args.toList ds p := hA0
 rw [Try.params5] at hA hval
 obtain ⟨v0, vs0, d0, ds0, p0, q0, hargs, rfl, rfl, h0, r0⟩ := trodAll_cons hA
 obtain ⟨rfl, rfl, rfl⟩ := trodAll_nil r0
 obtain rfl : args = #[v0] := by cases args; simp_all
 obtain ⟨rfl, rfl⟩ := trodVars_none hV
 have k0 := h0
 have lt0 : ∀ x ∈ p0, x.block < W.heap.size := by obtain ⟨m, hm⟩ := k0; exact DataW.trod_lt m _ _ _ hm
 obtain ⟨cs0, rfl, hcz0⟩ := okWide_struct Try.underlying31 (hval 0 31 v0 rfl rfl)
 obtain ⟨f0, hf0⟩ := h0
 obtain ⟨x0, hK0, hB0⟩ := (opens_struct Try.underlying31 (by kernel_rfl) (opensF_cons rfl (by kernel_rfl) (opens_slice Try.underlying29 (by kernel_rfl) opens_34) (opensF_one rfl (by kernel_rfl) (opens_bool Try.underlying4))) : Opens Try.prog 31 (Kd.pair (Kd.slice 34 k34) Kd.bool) _) _ _ _ _ _ _ _ hf0
 obtain ⟨l0_0, a0_1⟩ := x0
 have hcs0 : ∃ A0_0 c0_0, cs0.toList = [.slice A0_0 l0_0.length c0_0, .bool a0_1] ∧ l0_0.length ≤ c0_0 ∧ Kd.C k34 W A0_0 l0_0.length l0_0 := by
  have hK := hK0
  change Kd.K _ W _ cs0.toList at hK
  generalize cs0.toList = z_ at hK ⊢
  obtain ⟨_, _, rfl, ⟨A0_0, c0_0, rfl, hc0_0, hr0_0⟩, rfl⟩ := hK
  exact ⟨A0_0, c0_0, rfl, hc0_0, hr0_0⟩
 obtain ⟨A0_0, c0_0, hcs0, hc0_0, hr0_0⟩ := hcs0
 obtain rfl : cs0 = #[.slice A0_0 l0_0.length c0_0, .bool a0_1] := by rw [← hcs0]
 obtain ⟨k, h⟩ := pure_FnExactHear l0_0 a0_1 hB0.1 hB0.2
 clear hA0 hval0 hsz0
 refine (Print.laws_FnExactHear.calls (k := k) (r := true) (w := W) (hr0_0 := hr0_0) (hc0_0 := hc0_0) (h := h)).mono fun e W' ⟨he, bel0⟩ => ?_
 have bel : Below W.heap.size W W' := bel0
 subst he
 exact ⟨_, rfl, _, _, _, [], _, [], hW', trodAll_mk1 (shut_bool Try.underlying4 _), (trodAll_cons_mk (Below.trod laidOut (by kernel_rfl) (of_decide_eq_true (by kernel_rfl)) k0 bel lt0) trodAll_mk0), rfl, bel.frame _, fun h => by cases h⟩
theorem over : Rows.fnExactHearRow.holds Try.pinned (OpenSpec.ofChange Rows.fnExactHearSpec) :=
 OpenClaim.holds_of_wide 5 Try.f5 rfl rfl rfl rfl rfl rfl rfl ⟨rfl, rfl, rfl, rfl, rfl⟩ rfl rfl rfl rfl rfl (by kernel_rfl) Try.func5 (by kernel_rfl)
  (of_decide_eq_true (by kernel_rfl)) (by unfold Func.isWrapper; first | (rw [if_pos (by decide +kernel)]; kernel_rfl) | (rw [if_neg (by decide +kernel)]; exact ⟨rfl, rfl⟩))
  (fun os started H enc _ => lifted os started H enc)
theorem proved : Rows.FnExactHearSaid := over
#print axioms proved
end Go.Proofs.Ytfholjcelnkleaa.fnExactHear
namespace Go.Proofs.Ytfholjcelnkleaa
/-- The row, under a short name, for the claim. -/
theorem fnExactHear_holds : Rows.FnExactHearSaid := fnExactHear.proved
end Go.Proofs.Ytfholjcelnkleaa
