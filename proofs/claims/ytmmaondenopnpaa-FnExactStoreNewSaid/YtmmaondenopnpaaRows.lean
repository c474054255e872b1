/-
  No cell of these rows narrows 'for every input' (looked for: loops, veiled, ifaces, maps, wideKeys, modest, calm, conditions, laid).
  DERIVED. THE GIVEN ROWS OF THIS SEAT. 12 by the template 'for every input the law returns true; each argument reads behind the call as it read before'; 0 by the template 'total and deterministic' (their statements: YtmmaondenopnpaaTotals.lean).
  GIVEN WITH THE SEED: the statements are not yours to turn. If you find one false, say at which input.
  Laid BY PROGRAM, IN A SANDBOX (cutbox-rows.mjs): the forced cells as the released guide's own fill.sh prints them over the translation d00d2e850e938946… (all of the seat's roots in one cut). By AI agents, Wed Nov 11 2026. No macro, syntax, notation, axiom, sorry.
-/
import Derived.Test.YtmmaondenopnpaaChecked
import GoSem.Claim
import GoSem.ClaimJoined
import GoSem.ClaimMapViews
import Derived.JoinedTies
import Derived.KernelRfl
namespace Go.Proofs.Ytmmaondenopnpaa
/- THE CELL 'sum', in the pinned program and in every row, IS THE sha256 OF THE DUMP (.gsa) THAT YtmmaondenopnpaaProg.lean LOADS. Nothing in Lean hashes anything: it is a label: what it is worth is what the hold of that sum in a sandbox is worth. -/
noncomputable def Try.pinned : Pinned := { name := "ytmmaondenopnpaa", sum := "d00d2e850e938946b7437fe427fcd02f080fca0272527c466270b70d79c11e90", checked := Try.checked }
namespace Rows
def none {H : Type} : Left H := { results := [], args := [] }

/-- 'laws.FnExactSameSub': WHATEVER THE INPUT: true; the input reads as it did. -/
def fnExactSameSubSpec : ChangeSpec := { name := "fnExactSameSub", fn := fun _ => fun
  | [d1, d2] => { results := [.lit (.bool true)], args := [d1, d2] }
  | _ => none }
def fnExactSameSubRow : OpenClaim := { program := "ytmmaondenopnpaa", sum := "d00d2e850e938946b7437fe427fcd02f080fca0272527c466270b70d79c11e90", func := "loop.example/g00490/laws.FnExactSameSub", spec := "fnExactSameSub", apart := false }
def FnExactSameSubSaid : Prop := fnExactSameSubRow.holds Try.pinned (OpenSpec.ofChange fnExactSameSubSpec)

/-- ITS FALSE NEIGHBOUR: 'it returns false'. Refute it at one input. -/
def fnExactSameSubWrong : ChangeSpec := { name := "fnExactSameSub", fn := fun _ => fun
  | [d1, d2] => { results := [.lit (.bool false)], args := [d1, d2] }
  | _ => none }
def FnExactSameSubWrongFalsely : Prop := fnExactSameSubRow.holds Try.pinned (OpenSpec.ofChange fnExactSameSubWrong)

/-- 'laws.FnExactGroupAt': WHATEVER THE INPUT: true; the input reads as it did. -/
def fnExactGroupAtSpec : ChangeSpec := { name := "fnExactGroupAt", fn := fun _ => fun
  | [d1, d2] => { results := [.lit (.bool true)], args := [d1, d2] }
  | _ => none }
def fnExactGroupAtRow : OpenClaim := { program := "ytmmaondenopnpaa", sum := "d00d2e850e938946b7437fe427fcd02f080fca0272527c466270b70d79c11e90", func := "loop.example/g00490/laws.FnExactGroupAt", spec := "fnExactGroupAt", apart := false }
def FnExactGroupAtSaid : Prop := fnExactGroupAtRow.holds Try.pinned (OpenSpec.ofChange fnExactGroupAtSpec)

/-- ITS FALSE NEIGHBOUR: 'it returns false'. Refute it at one input. -/
def fnExactGroupAtWrong : ChangeSpec := { name := "fnExactGroupAt", fn := fun _ => fun
  | [d1, d2] => { results := [.lit (.bool false)], args := [d1, d2] }
  | _ => none }
def FnExactGroupAtWrongFalsely : Prop := fnExactGroupAtRow.holds Try.pinned (OpenSpec.ofChange fnExactGroupAtWrong)

/-- 'laws.FnExactSameBatch': WHATEVER THE INPUT: true; the input reads as it did. -/
def fnExactSameBatchSpec : ChangeSpec := { name := "fnExactSameBatch", fn := fun _ => fun
  | [d1, d2] => { results := [.lit (.bool true)], args := [d1, d2] }
  | _ => none }
def fnExactSameBatchRow : OpenClaim := { program := "ytmmaondenopnpaa", sum := "d00d2e850e938946b7437fe427fcd02f080fca0272527c466270b70d79c11e90", func := "loop.example/g00490/laws.FnExactSameBatch", spec := "fnExactSameBatch", apart := false }
def FnExactSameBatchSaid : Prop := fnExactSameBatchRow.holds Try.pinned (OpenSpec.ofChange fnExactSameBatchSpec)

/-- ITS FALSE NEIGHBOUR: 'it returns false'. Refute it at one input. -/
def fnExactSameBatchWrong : ChangeSpec := { name := "fnExactSameBatch", fn := fun _ => fun
  | [d1, d2] => { results := [.lit (.bool false)], args := [d1, d2] }
  | _ => none }
def FnExactSameBatchWrongFalsely : Prop := fnExactSameBatchRow.holds Try.pinned (OpenSpec.ofChange fnExactSameBatchWrong)

/-- 'laws.FnExactHoldsGroups': WHATEVER THE INPUT: true; the input reads as it did. -/
def fnExactHoldsGroupsSpec : ChangeSpec := { name := "fnExactHoldsGroups", fn := fun _ => fun
  | [d] => { results := [.lit (.bool true)], args := [d] }
  | _ => none }
def fnExactHoldsGroupsRow : OpenClaim := { program := "ytmmaondenopnpaa", sum := "d00d2e850e938946b7437fe427fcd02f080fca0272527c466270b70d79c11e90", func := "loop.example/g00490/laws.FnExactHoldsGroups", spec := "fnExactHoldsGroups", apart := false }
def FnExactHoldsGroupsSaid : Prop := fnExactHoldsGroupsRow.holds Try.pinned (OpenSpec.ofChange fnExactHoldsGroupsSpec)

/-- ITS FALSE NEIGHBOUR: 'it returns false'. Refute it at one input. -/
def fnExactHoldsGroupsWrong : ChangeSpec := { name := "fnExactHoldsGroups", fn := fun _ => fun
  | [d] => { results := [.lit (.bool false)], args := [d] }
  | _ => none }
def FnExactHoldsGroupsWrongFalsely : Prop := fnExactHoldsGroupsRow.holds Try.pinned (OpenSpec.ofChange fnExactHoldsGroupsWrong)

/-- 'laws.FnExactWantsGroups': WHATEVER THE INPUT: true; the input reads as it did. -/
def fnExactWantsGroupsSpec : ChangeSpec := { name := "fnExactWantsGroups", fn := fun _ => fun
  | [d] => { results := [.lit (.bool true)], args := [d] }
  | _ => none }
def fnExactWantsGroupsRow : OpenClaim := { program := "ytmmaondenopnpaa", sum := "d00d2e850e938946b7437fe427fcd02f080fca0272527c466270b70d79c11e90", func := "loop.example/g00490/laws.FnExactWantsGroups", spec := "fnExactWantsGroups", apart := false }
def FnExactWantsGroupsSaid : Prop := fnExactWantsGroupsRow.holds Try.pinned (OpenSpec.ofChange fnExactWantsGroupsSpec)

/-- ITS FALSE NEIGHBOUR: 'it returns false'. Refute it at one input. -/
def fnExactWantsGroupsWrong : ChangeSpec := { name := "fnExactWantsGroups", fn := fun _ => fun
  | [d] => { results := [.lit (.bool false)], args := [d] }
  | _ => none }
def FnExactWantsGroupsWrongFalsely : Prop := fnExactWantsGroupsRow.holds Try.pinned (OpenSpec.ofChange fnExactWantsGroupsWrong)

/-- 'laws.FnExactSameGroup': WHATEVER THE INPUT: true; the input reads as it did. -/
def fnExactSameGroupSpec : ChangeSpec := { name := "fnExactSameGroup", fn := fun _ => fun
  | [d1, d2] => { results := [.lit (.bool true)], args := [d1, d2] }
  | _ => none }
def fnExactSameGroupRow : OpenClaim := { program := "ytmmaondenopnpaa", sum := "d00d2e850e938946b7437fe427fcd02f080fca0272527c466270b70d79c11e90", func := "loop.example/g00490/laws.FnExactSameGroup", spec := "fnExactSameGroup", apart := false }
def FnExactSameGroupSaid : Prop := fnExactSameGroupRow.holds Try.pinned (OpenSpec.ofChange fnExactSameGroupSpec)

/-- ITS FALSE NEIGHBOUR: 'it returns false'. Refute it at one input. -/
def fnExactSameGroupWrong : ChangeSpec := { name := "fnExactSameGroup", fn := fun _ => fun
  | [d1, d2] => { results := [.lit (.bool false)], args := [d1, d2] }
  | _ => none }
def FnExactSameGroupWrongFalsely : Prop := fnExactSameGroupRow.holds Try.pinned (OpenSpec.ofChange fnExactSameGroupWrong)

/-- 'laws.FnExactStoreNew': WHATEVER THE INPUT: true; the input reads as it did. -/
def fnExactStoreNewSpec : ChangeSpec := { name := "fnExactStoreNew", fn := fun _ => fun
  | [d] => { results := [.lit (.bool true)], args := [d] }
  | _ => none }
def fnExactStoreNewRow : OpenClaim := { program := "ytmmaondenopnpaa", sum := "d00d2e850e938946b7437fe427fcd02f080fca0272527c466270b70d79c11e90", func := "loop.example/g00490/laws.FnExactStoreNew", spec := "fnExactStoreNew", apart := false }
def FnExactStoreNewSaid : Prop := fnExactStoreNewRow.holds Try.pinned (OpenSpec.ofChange fnExactStoreNewSpec)

/-- ITS FALSE NEIGHBOUR: 'it returns false'. Refute it at one input. -/
def fnExactStoreNewWrong : ChangeSpec := { name := "fnExactStoreNew", fn := fun _ => fun
  | [d] => { results := [.lit (.bool false)], args := [d] }
  | _ => none }
def FnExactStoreNewWrongFalsely : Prop := fnExactStoreNewRow.holds Try.pinned (OpenSpec.ofChange fnExactStoreNewWrong)

/-- 'laws.FnExactFits': WHATEVER THE INPUT: true; the input reads as it did. -/
def fnExactFitsSpec : ChangeSpec := { name := "fnExactFits", fn := fun _ => fun
  | [d1, d2] => { results := [.lit (.bool true)], args := [d1, d2] }
  | _ => none }
def fnExactFitsRow : OpenClaim := { program := "ytmmaondenopnpaa", sum := "d00d2e850e938946b7437fe427fcd02f080fca0272527c466270b70d79c11e90", func := "loop.example/g00490/laws.FnExactFits", spec := "fnExactFits", apart := false }
def FnExactFitsSaid : Prop := fnExactFitsRow.holds Try.pinned (OpenSpec.ofChange fnExactFitsSpec)

/-- ITS FALSE NEIGHBOUR: 'it returns false'. Refute it at one input. -/
def fnExactFitsWrong : ChangeSpec := { name := "fnExactFits", fn := fun _ => fun
  | [d1, d2] => { results := [.lit (.bool false)], args := [d1, d2] }
  | _ => none }
def FnExactFitsWrongFalsely : Prop := fnExactFitsRow.holds Try.pinned (OpenSpec.ofChange fnExactFitsWrong)

/-- 'laws.FnExactGroupOf': WHATEVER THE INPUT: true; the input reads as it did. -/
def fnExactGroupOfSpec : ChangeSpec := { name := "fnExactGroupOf", fn := fun _ => fun
  | [d1, d2] => { results := [.lit (.bool true)], args := [d1, d2] }
  | _ => none }
def fnExactGroupOfRow : OpenClaim := { program := "ytmmaondenopnpaa", sum := "d00d2e850e938946b7437fe427fcd02f080fca0272527c466270b70d79c11e90", func := "loop.example/g00490/laws.FnExactGroupOf", spec := "fnExactGroupOf", apart := false }
def FnExactGroupOfSaid : Prop := fnExactGroupOfRow.holds Try.pinned (OpenSpec.ofChange fnExactGroupOfSpec)

/-- ITS FALSE NEIGHBOUR: 'it returns false'. Refute it at one input. -/
def fnExactGroupOfWrong : ChangeSpec := { name := "fnExactGroupOf", fn := fun _ => fun
  | [d1, d2] => { results := [.lit (.bool false)], args := [d1, d2] }
  | _ => none }
def FnExactGroupOfWrongFalsely : Prop := fnExactGroupOfRow.holds Try.pinned (OpenSpec.ofChange fnExactGroupOfWrong)

/-- 'laws.FnExactSubOk': WHATEVER THE INPUT: true; the input reads as it did. -/
def fnExactSubOkSpec : ChangeSpec := { name := "fnExactSubOk", fn := fun _ => fun
  | [d] => { results := [.lit (.bool true)], args := [d] }
  | _ => none }
def fnExactSubOkRow : OpenClaim := { program := "ytmmaondenopnpaa", sum := "d00d2e850e938946b7437fe427fcd02f080fca0272527c466270b70d79c11e90", func := "loop.example/g00490/laws.FnExactSubOk", spec := "fnExactSubOk", apart := false }
def FnExactSubOkSaid : Prop := fnExactSubOkRow.holds Try.pinned (OpenSpec.ofChange fnExactSubOkSpec)

/-- ITS FALSE NEIGHBOUR: 'it returns false'. Refute it at one input. -/
def fnExactSubOkWrong : ChangeSpec := { name := "fnExactSubOk", fn := fun _ => fun
  | [d] => { results := [.lit (.bool false)], args := [d] }
  | _ => none }
def FnExactSubOkWrongFalsely : Prop := fnExactSubOkRow.holds Try.pinned (OpenSpec.ofChange fnExactSubOkWrong)

/-- 'laws.FnExactMemberOf': WHATEVER THE INPUT: true; the input reads as it did. -/
def fnExactMemberOfSpec : ChangeSpec := { name := "fnExactMemberOf", fn := fun _ => fun
  | [d1, d2] => { results := [.lit (.bool true)], args := [d1, d2] }
  | _ => none }
def fnExactMemberOfRow : OpenClaim := { program := "ytmmaondenopnpaa", sum := "d00d2e850e938946b7437fe427fcd02f080fca0272527c466270b70d79c11e90", func := "loop.example/g00490/laws.FnExactMemberOf", spec := "fnExactMemberOf", apart := false }
def FnExactMemberOfSaid : Prop := fnExactMemberOfRow.holds Try.pinned (OpenSpec.ofChange fnExactMemberOfSpec)

/-- ITS FALSE NEIGHBOUR: 'it returns false'. Refute it at one input. -/
def fnExactMemberOfWrong : ChangeSpec := { name := "fnExactMemberOf", fn := fun _ => fun
  | [d1, d2] => { results := [.lit (.bool false)], args := [d1, d2] }
  | _ => none }
def FnExactMemberOfWrongFalsely : Prop := fnExactMemberOfRow.holds Try.pinned (OpenSpec.ofChange fnExactMemberOfWrong)

/-- 'laws.FnExactDue': WHATEVER THE INPUT: true; the input reads as it did. -/
def fnExactDueSpec : ChangeSpec := { name := "fnExactDue", fn := fun _ => fun
  | [d1, d2] => { results := [.lit (.bool true)], args := [d1, d2] }
  | _ => none }
def fnExactDueRow : OpenClaim := { program := "ytmmaondenopnpaa", sum := "d00d2e850e938946b7437fe427fcd02f080fca0272527c466270b70d79c11e90", func := "loop.example/g00490/laws.FnExactDue", spec := "fnExactDue", apart := false }
def FnExactDueSaid : Prop := fnExactDueRow.holds Try.pinned (OpenSpec.ofChange fnExactDueSpec)

/-- ITS FALSE NEIGHBOUR: 'it returns false'. Refute it at one input. -/
def fnExactDueWrong : ChangeSpec := { name := "fnExactDue", fn := fun _ => fun
  | [d1, d2] => { results := [.lit (.bool false)], args := [d1, d2] }
  | _ => none }
def FnExactDueWrongFalsely : Prop := fnExactDueRow.holds Try.pinned (OpenSpec.ofChange fnExactDueWrong)

/- THE SECOND FORM. 'bulk': how many values and letters a reading holds, each counted each time it is reached (what is shared counts as often as it is met; a slice's spare places count too). A statement '..UptoSaid' is the law's where the arguments, and the package variables that the reading takes, are together of bulk at most 1048576: NARROWER than '..Said'. Prove '..Said' where nothing that the law and all that it calls make is longer than what came in: it says more and counts as full. Else prove '..UptoSaid'. A law counts once. -/
mutual
def uptoBulk {H : Type} : DataW H → Nat
  | .lit (.string bytes) => bytes.length + 1
  | .lit _ => 1
  | .nil => 1
  | .ptr d => uptoBulk d + 1
  | .slice elems spare => uptoBulkAll elems + uptoBulkAll spare + 1
  | .agg parts => uptoBulkAll parts + 1
  | .iface _ d => uptoBulk d + 1
  | .map entries => uptoBulkEntries entries + 1
  | .held _ => 1
def uptoBulkAll {H : Type} : List (DataW H) → Nat
  | [] => 0
  | d :: r => uptoBulk d + uptoBulkAll r
def uptoBulkEntries {H : Type} : List (Lit × DataW H) → Nat
  | [] => 0
  | x :: r => uptoBulkEntry x + uptoBulkEntries r
def uptoBulkEntry {H : Type} : Lit × DataW H → Nat
  | (.string bytes, d) => bytes.length + uptoBulk d + 1
  | (_, d) => uptoBulk d + 1
 end
def uptoSmall : (H : Type) → List (DataW H) → Bool := fun _ ds => decide (uptoBulkAll ds ≤ 1048576)
def OpenSpec.upto (s : _root_.Go.ChangeSpec) : _root_.Go.OpenSpec := { _root_.Go.OpenSpec.ofChange s with cond := some uptoSmall }

/-- 'laws.FnExactSameSub', WHERE WHAT IT READS IS OF BULK AT MOST 1048576: true; the input reads as it did. -/
def fnExactSameSubUptoRow : OpenClaim := { program := "ytmmaondenopnpaa", sum := "d00d2e850e938946b7437fe427fcd02f080fca0272527c466270b70d79c11e90", func := "loop.example/g00490/laws.FnExactSameSub", spec := "fnExactSameSub", apart := false, narrowed := true }
def FnExactSameSubUptoSaid : Prop := fnExactSameSubUptoRow.holds Try.pinned (OpenSpec.upto fnExactSameSubSpec)

/-- 'laws.FnExactGroupAt', WHERE WHAT IT READS IS OF BULK AT MOST 1048576: true; the input reads as it did. -/
def fnExactGroupAtUptoRow : OpenClaim := { program := "ytmmaondenopnpaa", sum := "d00d2e850e938946b7437fe427fcd02f080fca0272527c466270b70d79c11e90", func := "loop.example/g00490/laws.FnExactGroupAt", spec := "fnExactGroupAt", apart := false, narrowed := true }
def FnExactGroupAtUptoSaid : Prop := fnExactGroupAtUptoRow.holds Try.pinned (OpenSpec.upto fnExactGroupAtSpec)

/-- 'laws.FnExactSameBatch', WHERE WHAT IT READS IS OF BULK AT MOST 1048576: true; the input reads as it did. -/
def fnExactSameBatchUptoRow : OpenClaim := { program := "ytmmaondenopnpaa", sum := "d00d2e850e938946b7437fe427fcd02f080fca0272527c466270b70d79c11e90", func := "loop.example/g00490/laws.FnExactSameBatch", spec := "fnExactSameBatch", apart := false, narrowed := true }
def FnExactSameBatchUptoSaid : Prop := fnExactSameBatchUptoRow.holds Try.pinned (OpenSpec.upto fnExactSameBatchSpec)

/-- 'laws.FnExactHoldsGroups', WHERE WHAT IT READS IS OF BULK AT MOST 1048576: true; the input reads as it did. -/
def fnExactHoldsGroupsUptoRow : OpenClaim := { program := "ytmmaondenopnpaa", sum := "d00d2e850e938946b7437fe427fcd02f080fca0272527c466270b70d79c11e90", func := "loop.example/g00490/laws.FnExactHoldsGroups", spec := "fnExactHoldsGroups", apart := false, narrowed := true }
def FnExactHoldsGroupsUptoSaid : Prop := fnExactHoldsGroupsUptoRow.holds Try.pinned (OpenSpec.upto fnExactHoldsGroupsSpec)

/-- 'laws.FnExactWantsGroups', WHERE WHAT IT READS IS OF BULK AT MOST 1048576: true; the input reads as it did. -/
def fnExactWantsGroupsUptoRow : OpenClaim := { program := "ytmmaondenopnpaa", sum := "d00d2e850e938946b7437fe427fcd02f080fca0272527c466270b70d79c11e90", func := "loop.example/g00490/laws.FnExactWantsGroups", spec := "fnExactWantsGroups", apart := false, narrowed := true }
def FnExactWantsGroupsUptoSaid : Prop := fnExactWantsGroupsUptoRow.holds Try.pinned (OpenSpec.upto fnExactWantsGroupsSpec)

/-- 'laws.FnExactSameGroup', WHERE WHAT IT READS IS OF BULK AT MOST 1048576: true; the input reads as it did. -/
def fnExactSameGroupUptoRow : OpenClaim := { program := "ytmmaondenopnpaa", sum := "d00d2e850e938946b7437fe427fcd02f080fca0272527c466270b70d79c11e90", func := "loop.example/g00490/laws.FnExactSameGroup", spec := "fnExactSameGroup", apart := false, narrowed := true }
def FnExactSameGroupUptoSaid : Prop := fnExactSameGroupUptoRow.holds Try.pinned (OpenSpec.upto fnExactSameGroupSpec)

/-- 'laws.FnExactStoreNew', WHERE WHAT IT READS IS OF BULK AT MOST 1048576: true; the input reads as it did. -/
def fnExactStoreNewUptoRow : OpenClaim := { program := "ytmmaondenopnpaa", sum := "d00d2e850e938946b7437fe427fcd02f080fca0272527c466270b70d79c11e90", func := "loop.example/g00490/laws.FnExactStoreNew", spec := "fnExactStoreNew", apart := false, narrowed := true }
def FnExactStoreNewUptoSaid : Prop := fnExactStoreNewUptoRow.holds Try.pinned (OpenSpec.upto fnExactStoreNewSpec)

/-- 'laws.FnExactFits', WHERE WHAT IT READS IS OF BULK AT MOST 1048576: true; the input reads as it did. -/
def fnExactFitsUptoRow : OpenClaim := { program := "ytmmaondenopnpaa", sum := "d00d2e850e938946b7437fe427fcd02f080fca0272527c466270b70d79c11e90", func := "loop.example/g00490/laws.FnExactFits", spec := "fnExactFits", apart := false, narrowed := true }
def FnExactFitsUptoSaid : Prop := fnExactFitsUptoRow.holds Try.pinned (OpenSpec.upto fnExactFitsSpec)

/-- 'laws.FnExactGroupOf', WHERE WHAT IT READS IS OF BULK AT MOST 1048576: true; the input reads as it did. -/
def fnExactGroupOfUptoRow : OpenClaim := { program := "ytmmaondenopnpaa", sum := "d00d2e850e938946b7437fe427fcd02f080fca0272527c466270b70d79c11e90", func := "loop.example/g00490/laws.FnExactGroupOf", spec := "fnExactGroupOf", apart := false, narrowed := true }
def FnExactGroupOfUptoSaid : Prop := fnExactGroupOfUptoRow.holds Try.pinned (OpenSpec.upto fnExactGroupOfSpec)

/-- 'laws.FnExactSubOk', WHERE WHAT IT READS IS OF BULK AT MOST 1048576: true; the input reads as it did. -/
def fnExactSubOkUptoRow : OpenClaim := { program := "ytmmaondenopnpaa", sum := "d00d2e850e938946b7437fe427fcd02f080fca0272527c466270b70d79c11e90", func := "loop.example/g00490/laws.FnExactSubOk", spec := "fnExactSubOk", apart := false, narrowed := true }
def FnExactSubOkUptoSaid : Prop := fnExactSubOkUptoRow.holds Try.pinned (OpenSpec.upto fnExactSubOkSpec)

/-- 'laws.FnExactMemberOf', WHERE WHAT IT READS IS OF BULK AT MOST 1048576: true; the input reads as it did. -/
def fnExactMemberOfUptoRow : OpenClaim := { program := "ytmmaondenopnpaa", sum := "d00d2e850e938946b7437fe427fcd02f080fca0272527c466270b70d79c11e90", func := "loop.example/g00490/laws.FnExactMemberOf", spec := "fnExactMemberOf", apart := false, narrowed := true }
def FnExactMemberOfUptoSaid : Prop := fnExactMemberOfUptoRow.holds Try.pinned (OpenSpec.upto fnExactMemberOfSpec)

/-- 'laws.FnExactDue', WHERE WHAT IT READS IS OF BULK AT MOST 1048576: true; the input reads as it did. -/
def fnExactDueUptoRow : OpenClaim := { program := "ytmmaondenopnpaa", sum := "d00d2e850e938946b7437fe427fcd02f080fca0272527c466270b70d79c11e90", func := "loop.example/g00490/laws.FnExactDue", spec := "fnExactDue", apart := false, narrowed := true }
def FnExactDueUptoSaid : Prop := fnExactDueUptoRow.holds Try.pinned (OpenSpec.upto fnExactDueSpec)

end Rows
end Go.Proofs.Ytmmaondenopnpaa
