/-
  No cell of these rows narrows 'for every input' (looked for: loops, veiled, ifaces, maps, wideKeys, modest, calm, conditions, laid).
  DERIVED. THE GIVEN ROWS OF THIS SEAT. 12 by the template 'for every input the law returns true; each argument reads behind the call as it read before'; 0 by the template 'total and deterministic' (their statements: YtfholjcelnkleaaTotals.lean).
  GIVEN WITH THE SEED: the statements are not yours to turn. If you find one false, say at which input.
  Laid BY PROGRAM, IN A SANDBOX (cutbox-rows.mjs): the forced cells as the released guide's own fill.sh prints them over the translation 609eed99db5d816e… (all of the seat's roots in one cut). By AI agents, Wed Nov 11 2026. No macro, syntax, notation, axiom, sorry.
-/
import Derived.Test.YtfholjcelnkleaaChecked
import GoSem.Claim
import GoSem.ClaimJoined
import GoSem.ClaimMapViews
import Derived.JoinedTies
import Derived.KernelRfl
namespace Go.Proofs.Ytfholjcelnkleaa
/- THE CELL 'sum', in the pinned program and in every row, IS THE sha256 OF THE DUMP (.gsa) THAT YtfholjcelnkleaaProg.lean LOADS. Nothing in Lean hashes anything: it is a label: what it is worth is what the hold of that sum in a sandbox is worth. -/
noncomputable def Try.pinned : Pinned := { name := "ytfholjcelnkleaa", sum := "609eed99db5d816e2d2a5c492e3973d5b69f7324ae577c3fb937419318453aa0", checked := Try.checked }
namespace Rows
def none {H : Type} : Left H := { results := [], args := [] }

/-- 'laws.FnExactCountOf': WHATEVER THE INPUT: true; the input reads as it did. -/
def fnExactCountOfSpec : ChangeSpec := { name := "fnExactCountOf", fn := fun _ => fun
  | [d] => { results := [.lit (.bool true)], args := [d] }
  | _ => none }
def fnExactCountOfRow : OpenClaim := { program := "ytfholjcelnkleaa", sum := "609eed99db5d816e2d2a5c492e3973d5b69f7324ae577c3fb937419318453aa0", func := "loop.example/g00490/laws.FnExactCountOf", spec := "fnExactCountOf", apart := false }
def FnExactCountOfSaid : Prop := fnExactCountOfRow.holds Try.pinned (OpenSpec.ofChange fnExactCountOfSpec)

/-- ITS FALSE NEIGHBOUR: 'it returns false'. Refute it at one input. -/
def fnExactCountOfWrong : ChangeSpec := { name := "fnExactCountOf", fn := fun _ => fun
  | [d] => { results := [.lit (.bool false)], args := [d] }
  | _ => none }
def FnExactCountOfWrongFalsely : Prop := fnExactCountOfRow.holds Try.pinned (OpenSpec.ofChange fnExactCountOfWrong)

/-- 'laws.FnExactTell': WHATEVER THE INPUT: true; the input reads as it did. -/
def fnExactTellSpec : ChangeSpec := { name := "fnExactTell", fn := fun _ => fun
  | [d1, d2] => { results := [.lit (.bool true)], args := [d1, d2] }
  | _ => none }
def fnExactTellRow : OpenClaim := { program := "ytfholjcelnkleaa", sum := "609eed99db5d816e2d2a5c492e3973d5b69f7324ae577c3fb937419318453aa0", func := "loop.example/g00490/laws.FnExactTell", spec := "fnExactTell", apart := false }
def FnExactTellSaid : Prop := fnExactTellRow.holds Try.pinned (OpenSpec.ofChange fnExactTellSpec)

/-- ITS FALSE NEIGHBOUR: 'it returns false'. Refute it at one input. -/
def fnExactTellWrong : ChangeSpec := { name := "fnExactTell", fn := fun _ => fun
  | [d1, d2] => { results := [.lit (.bool false)], args := [d1, d2] }
  | _ => none }
def FnExactTellWrongFalsely : Prop := fnExactTellRow.holds Try.pinned (OpenSpec.ofChange fnExactTellWrong)

/-- 'laws.FnExactHear': WHATEVER THE INPUT: true; the input reads as it did. -/
def fnExactHearSpec : ChangeSpec := { name := "fnExactHear", fn := fun _ => fun
  | [d] => { results := [.lit (.bool true)], args := [d] }
  | _ => none }
def fnExactHearRow : OpenClaim := { program := "ytfholjcelnkleaa", sum := "609eed99db5d816e2d2a5c492e3973d5b69f7324ae577c3fb937419318453aa0", func := "loop.example/g00490/laws.FnExactHear", spec := "fnExactHear", apart := false }
def FnExactHearSaid : Prop := fnExactHearRow.holds Try.pinned (OpenSpec.ofChange fnExactHearSpec)

/-- ITS FALSE NEIGHBOUR: 'it returns false'. Refute it at one input. -/
def fnExactHearWrong : ChangeSpec := { name := "fnExactHear", fn := fun _ => fun
  | [d] => { results := [.lit (.bool false)], args := [d] }
  | _ => none }
def FnExactHearWrongFalsely : Prop := fnExactHearRow.holds Try.pinned (OpenSpec.ofChange fnExactHearWrong)

/-- 'laws.FnExactHeard': WHATEVER THE INPUT: true; the input reads as it did. -/
def fnExactHeardSpec : ChangeSpec := { name := "fnExactHeard", fn := fun _ => fun
  | [d1, d2] => { results := [.lit (.bool true)], args := [d1, d2] }
  | _ => none }
def fnExactHeardRow : OpenClaim := { program := "ytfholjcelnkleaa", sum := "609eed99db5d816e2d2a5c492e3973d5b69f7324ae577c3fb937419318453aa0", func := "loop.example/g00490/laws.FnExactHeard", spec := "fnExactHeard", apart := false }
def FnExactHeardSaid : Prop := fnExactHeardRow.holds Try.pinned (OpenSpec.ofChange fnExactHeardSpec)

/-- ITS FALSE NEIGHBOUR: 'it returns false'. Refute it at one input. -/
def fnExactHeardWrong : ChangeSpec := { name := "fnExactHeard", fn := fun _ => fun
  | [d1, d2] => { results := [.lit (.bool false)], args := [d1, d2] }
  | _ => none }
def FnExactHeardWrongFalsely : Prop := fnExactHeardRow.holds Try.pinned (OpenSpec.ofChange fnExactHeardWrong)

/-- 'laws.FnExactTellAll': WHATEVER THE INPUT: true; the input reads as it did. -/
def fnExactTellAllSpec : ChangeSpec := { name := "fnExactTellAll", fn := fun _ => fun
  | [d1, d2] => { results := [.lit (.bool true)], args := [d1, d2] }
  | _ => none }
def fnExactTellAllRow : OpenClaim := { program := "ytfholjcelnkleaa", sum := "609eed99db5d816e2d2a5c492e3973d5b69f7324ae577c3fb937419318453aa0", func := "loop.example/g00490/laws.FnExactTellAll", spec := "fnExactTellAll", apart := false }
def FnExactTellAllSaid : Prop := fnExactTellAllRow.holds Try.pinned (OpenSpec.ofChange fnExactTellAllSpec)

/-- ITS FALSE NEIGHBOUR: 'it returns false'. Refute it at one input. -/
def fnExactTellAllWrong : ChangeSpec := { name := "fnExactTellAll", fn := fun _ => fun
  | [d1, d2] => { results := [.lit (.bool false)], args := [d1, d2] }
  | _ => none }
def FnExactTellAllWrongFalsely : Prop := fnExactTellAllRow.holds Try.pinned (OpenSpec.ofChange fnExactTellAllWrong)

/-- 'laws.FnExactGroupOk': WHATEVER THE INPUT: true; the input reads as it did. -/
def fnExactGroupOkSpec : ChangeSpec := { name := "fnExactGroupOk", fn := fun _ => fun
  | [d1, d2] => { results := [.lit (.bool true)], args := [d1, d2] }
  | _ => none }
def fnExactGroupOkRow : OpenClaim := { program := "ytfholjcelnkleaa", sum := "609eed99db5d816e2d2a5c492e3973d5b69f7324ae577c3fb937419318453aa0", func := "loop.example/g00490/laws.FnExactGroupOk", spec := "fnExactGroupOk", apart := false }
def FnExactGroupOkSaid : Prop := fnExactGroupOkRow.holds Try.pinned (OpenSpec.ofChange fnExactGroupOkSpec)

/-- ITS FALSE NEIGHBOUR: 'it returns false'. Refute it at one input. -/
def fnExactGroupOkWrong : ChangeSpec := { name := "fnExactGroupOk", fn := fun _ => fun
  | [d1, d2] => { results := [.lit (.bool false)], args := [d1, d2] }
  | _ => none }
def FnExactGroupOkWrongFalsely : Prop := fnExactGroupOkRow.holds Try.pinned (OpenSpec.ofChange fnExactGroupOkWrong)

/-- 'laws.FnExactJoinIn': WHATEVER THE INPUT: true; the input reads as it did. -/
def fnExactJoinInSpec : ChangeSpec := { name := "fnExactJoinIn", fn := fun _ => fun
  | [d1, d2] => { results := [.lit (.bool true)], args := [d1, d2] }
  | _ => none }
def fnExactJoinInRow : OpenClaim := { program := "ytfholjcelnkleaa", sum := "609eed99db5d816e2d2a5c492e3973d5b69f7324ae577c3fb937419318453aa0", func := "loop.example/g00490/laws.FnExactJoinIn", spec := "fnExactJoinIn", apart := false }
def FnExactJoinInSaid : Prop := fnExactJoinInRow.holds Try.pinned (OpenSpec.ofChange fnExactJoinInSpec)

/-- ITS FALSE NEIGHBOUR: 'it returns false'. Refute it at one input. -/
def fnExactJoinInWrong : ChangeSpec := { name := "fnExactJoinIn", fn := fun _ => fun
  | [d1, d2] => { results := [.lit (.bool false)], args := [d1, d2] }
  | _ => none }
def FnExactJoinInWrongFalsely : Prop := fnExactJoinInRow.holds Try.pinned (OpenSpec.ofChange fnExactJoinInWrong)

/-- 'laws.FnExactGroupsOk': WHATEVER THE INPUT: true; the input reads as it did. -/
def fnExactGroupsOkSpec : ChangeSpec := { name := "fnExactGroupsOk", fn := fun _ => fun
  | [d1, d2] => { results := [.lit (.bool true)], args := [d1, d2] }
  | _ => none }
def fnExactGroupsOkRow : OpenClaim := { program := "ytfholjcelnkleaa", sum := "609eed99db5d816e2d2a5c492e3973d5b69f7324ae577c3fb937419318453aa0", func := "loop.example/g00490/laws.FnExactGroupsOk", spec := "fnExactGroupsOk", apart := false }
def FnExactGroupsOkSaid : Prop := fnExactGroupsOkRow.holds Try.pinned (OpenSpec.ofChange fnExactGroupsOkSpec)

/-- ITS FALSE NEIGHBOUR: 'it returns false'. Refute it at one input. -/
def fnExactGroupsOkWrong : ChangeSpec := { name := "fnExactGroupsOk", fn := fun _ => fun
  | [d1, d2] => { results := [.lit (.bool false)], args := [d1, d2] }
  | _ => none }
def FnExactGroupsOkWrongFalsely : Prop := fnExactGroupsOkRow.holds Try.pinned (OpenSpec.ofChange fnExactGroupsOkWrong)

/-- 'laws.FnExactTaskOk': WHATEVER THE INPUT: true; the input reads as it did. -/
def fnExactTaskOkSpec : ChangeSpec := { name := "fnExactTaskOk", fn := fun _ => fun
  | [d1, d2] => { results := [.lit (.bool true)], args := [d1, d2] }
  | _ => none }
def fnExactTaskOkRow : OpenClaim := { program := "ytfholjcelnkleaa", sum := "609eed99db5d816e2d2a5c492e3973d5b69f7324ae577c3fb937419318453aa0", func := "loop.example/g00490/laws.FnExactTaskOk", spec := "fnExactTaskOk", apart := false }
def FnExactTaskOkSaid : Prop := fnExactTaskOkRow.holds Try.pinned (OpenSpec.ofChange fnExactTaskOkSpec)

/-- ITS FALSE NEIGHBOUR: 'it returns false'. Refute it at one input. -/
def fnExactTaskOkWrong : ChangeSpec := { name := "fnExactTaskOk", fn := fun _ => fun
  | [d1, d2] => { results := [.lit (.bool false)], args := [d1, d2] }
  | _ => none }
def FnExactTaskOkWrongFalsely : Prop := fnExactTaskOkRow.holds Try.pinned (OpenSpec.ofChange fnExactTaskOkWrong)

/-- 'laws.FnExactJoinAll': WHATEVER THE INPUT: true; the input reads as it did. -/
def fnExactJoinAllSpec : ChangeSpec := { name := "fnExactJoinAll", fn := fun _ => fun
  | [d1, d2, d3, d4, d5] => { results := [.lit (.bool true)], args := [d1, d2, d3, d4, d5] }
  | _ => none }
def fnExactJoinAllRow : OpenClaim := { program := "ytfholjcelnkleaa", sum := "609eed99db5d816e2d2a5c492e3973d5b69f7324ae577c3fb937419318453aa0", func := "loop.example/g00490/laws.FnExactJoinAll", spec := "fnExactJoinAll", apart := false }
def FnExactJoinAllSaid : Prop := fnExactJoinAllRow.holds Try.pinned (OpenSpec.ofChange fnExactJoinAllSpec)

/-- ITS FALSE NEIGHBOUR: 'it returns false'. Refute it at one input. -/
def fnExactJoinAllWrong : ChangeSpec := { name := "fnExactJoinAll", fn := fun _ => fun
  | [d1, d2, d3, d4, d5] => { results := [.lit (.bool false)], args := [d1, d2, d3, d4, d5] }
  | _ => none }
def FnExactJoinAllWrongFalsely : Prop := fnExactJoinAllRow.holds Try.pinned (OpenSpec.ofChange fnExactJoinAllWrong)

/-- 'laws.FnHeards': WHATEVER THE INPUT: true; the input reads as it did. -/
def fnHeardsSpec : ChangeSpec := { name := "fnHeards", fn := fun _ => fun
  | [d] => { results := [.lit (.bool true)], args := [d] }
  | _ => none }
def fnHeardsRow : OpenClaim := { program := "ytfholjcelnkleaa", sum := "609eed99db5d816e2d2a5c492e3973d5b69f7324ae577c3fb937419318453aa0", func := "loop.example/g00490/laws.FnHeards", spec := "fnHeards", apart := false }
def FnHeardsSaid : Prop := fnHeardsRow.holds Try.pinned (OpenSpec.ofChange fnHeardsSpec)

/-- ITS FALSE NEIGHBOUR: 'it returns false'. Refute it at one input. -/
def fnHeardsWrong : ChangeSpec := { name := "fnHeards", fn := fun _ => fun
  | [d] => { results := [.lit (.bool false)], args := [d] }
  | _ => none }
def FnHeardsWrongFalsely : Prop := fnHeardsRow.holds Try.pinned (OpenSpec.ofChange fnHeardsWrong)

/-- 'laws.FnSubs': WHATEVER THE INPUT: true; the input reads as it did. -/
def fnSubsSpec : ChangeSpec := { name := "fnSubs", fn := fun _ => fun
  | [d] => { results := [.lit (.bool true)], args := [d] }
  | _ => none }
def fnSubsRow : OpenClaim := { program := "ytfholjcelnkleaa", sum := "609eed99db5d816e2d2a5c492e3973d5b69f7324ae577c3fb937419318453aa0", func := "loop.example/g00490/laws.FnSubs", spec := "fnSubs", apart := false }
def FnSubsSaid : Prop := fnSubsRow.holds Try.pinned (OpenSpec.ofChange fnSubsSpec)

/-- ITS FALSE NEIGHBOUR: 'it returns false'. Refute it at one input. -/
def fnSubsWrong : ChangeSpec := { name := "fnSubs", fn := fun _ => fun
  | [d] => { results := [.lit (.bool false)], args := [d] }
  | _ => none }
def FnSubsWrongFalsely : Prop := fnSubsRow.holds Try.pinned (OpenSpec.ofChange fnSubsWrong)

/- THE SECOND FORM. 'bulk': how many values and letters a reading holds, each counted each time it is reached (what is shared counts as often as it is met; a slice's spare places count too). A statement '..UptoSaid' is the law's where the arguments, and the package variables that the reading takes, are together of bulk at most 1048576: NARROWER than '..Said'. Prove '..Said' where nothing that the law and all that it calls make is longer than what came in: it says more and counts as full. Else prove '..UptoSaid'. A law counts once. -/
mutual
def uptoBulk {H : Type} : DataW H → Nat
  | .lit (.string bytes) => bytes.length + 1
  | .lit _ => 1
  | .nil => 1
  | .ptr d => uptoBulk d + 1
  | .slice elems spare => uptoBulkAll elems + uptoBulkAll spare + 1
  | .agg parts => uptoBulkAll parts + 1
  | .iface _ d => uptoBulk d + 1
  | .map entries => uptoBulkEntries entries + 1
  | .held _ => 1
def uptoBulkAll {H : Type} : List (DataW H) → Nat
  | [] => 0
  | d :: r => uptoBulk d + uptoBulkAll r
def uptoBulkEntries {H : Type} : List (Lit × DataW H) → Nat
  | [] => 0
  | x :: r => uptoBulkEntry x + uptoBulkEntries r
def uptoBulkEntry {H : Type} : Lit × DataW H → Nat
  | (.string bytes, d) => bytes.length + uptoBulk d + 1
  | (_, d) => uptoBulk d + 1
 end
def uptoSmall : (H : Type) → List (DataW H) → Bool := fun _ ds => decide (uptoBulkAll ds ≤ 1048576)
def OpenSpec.upto (s : _root_.Go.ChangeSpec) : _root_.Go.OpenSpec := { _root_.Go.OpenSpec.ofChange s with cond := some uptoSmall }

/-- 'laws.FnExactCountOf', WHERE WHAT IT READS IS OF BULK AT MOST 1048576: true; the input reads as it did. -/
def fnExactCountOfUptoRow : OpenClaim := { program := "ytfholjcelnkleaa", sum := "609eed99db5d816e2d2a5c492e3973d5b69f7324ae577c3fb937419318453aa0", func := "loop.example/g00490/laws.FnExactCountOf", spec := "fnExactCountOf", apart := false, narrowed := true }
def FnExactCountOfUptoSaid : Prop := fnExactCountOfUptoRow.holds Try.pinned (OpenSpec.upto fnExactCountOfSpec)

/-- 'laws.FnExactTell', WHERE WHAT IT READS IS OF BULK AT MOST 1048576: true; the input reads as it did. -/
def fnExactTellUptoRow : OpenClaim := { program := "ytfholjcelnkleaa", sum := "609eed99db5d816e2d2a5c492e3973d5b69f7324ae577c3fb937419318453aa0", func := "loop.example/g00490/laws.FnExactTell", spec := "fnExactTell", apart := false, narrowed := true }
def FnExactTellUptoSaid : Prop := fnExactTellUptoRow.holds Try.pinned (OpenSpec.upto fnExactTellSpec)

/-- 'laws.FnExactHear', WHERE WHAT IT READS IS OF BULK AT MOST 1048576: true; the input reads as it did. -/
def fnExactHearUptoRow : OpenClaim := { program := "ytfholjcelnkleaa", sum := "609eed99db5d816e2d2a5c492e3973d5b69f7324ae577c3fb937419318453aa0", func := "loop.example/g00490/laws.FnExactHear", spec := "fnExactHear", apart := false, narrowed := true }
def FnExactHearUptoSaid : Prop := fnExactHearUptoRow.holds Try.pinned (OpenSpec.upto fnExactHearSpec)

/-- 'laws.FnExactHeard', WHERE WHAT IT READS IS OF BULK AT MOST 1048576: true; the input reads as it did. -/
def fnExactHeardUptoRow : OpenClaim := { program := "ytfholjcelnkleaa", sum := "609eed99db5d816e2d2a5c492e3973d5b69f7324ae577c3fb937419318453aa0", func := "loop.example/g00490/laws.FnExactHeard", spec := "fnExactHeard", apart := false, narrowed := true }
def FnExactHeardUptoSaid : Prop := fnExactHeardUptoRow.holds Try.pinned (OpenSpec.upto fnExactHeardSpec)

/-- 'laws.FnExactTellAll', WHERE WHAT IT READS IS OF BULK AT MOST 1048576: true; the input reads as it did. -/
def fnExactTellAllUptoRow : OpenClaim := { program := "ytfholjcelnkleaa", sum := "609eed99db5d816e2d2a5c492e3973d5b69f7324ae577c3fb937419318453aa0", func := "loop.example/g00490/laws.FnExactTellAll", spec := "fnExactTellAll", apart := false, narrowed := true }
def FnExactTellAllUptoSaid : Prop := fnExactTellAllUptoRow.holds Try.pinned (OpenSpec.upto fnExactTellAllSpec)

/-- 'laws.FnExactGroupOk', WHERE WHAT IT READS IS OF BULK AT MOST 1048576: true; the input reads as it did. -/
def fnExactGroupOkUptoRow : OpenClaim := { program := "ytfholjcelnkleaa", sum := "609eed99db5d816e2d2a5c492e3973d5b69f7324ae577c3fb937419318453aa0", func := "loop.example/g00490/laws.FnExactGroupOk", spec := "fnExactGroupOk", apart := false, narrowed := true }
def FnExactGroupOkUptoSaid : Prop := fnExactGroupOkUptoRow.holds Try.pinned (OpenSpec.upto fnExactGroupOkSpec)

/-- 'laws.FnExactJoinIn', WHERE WHAT IT READS IS OF BULK AT MOST 1048576: true; the input reads as it did. -/
def fnExactJoinInUptoRow : OpenClaim := { program := "ytfholjcelnkleaa", sum := "609eed99db5d816e2d2a5c492e3973d5b69f7324ae577c3fb937419318453aa0", func := "loop.example/g00490/laws.FnExactJoinIn", spec := "fnExactJoinIn", apart := false, narrowed := true }
def FnExactJoinInUptoSaid : Prop := fnExactJoinInUptoRow.holds Try.pinned (OpenSpec.upto fnExactJoinInSpec)

/-- 'laws.FnExactGroupsOk', WHERE WHAT IT READS IS OF BULK AT MOST 1048576: true; the input reads as it did. -/
def fnExactGroupsOkUptoRow : OpenClaim := { program := "ytfholjcelnkleaa", sum := "609eed99db5d816e2d2a5c492e3973d5b69f7324ae577c3fb937419318453aa0", func := "loop.example/g00490/laws.FnExactGroupsOk", spec := "fnExactGroupsOk", apart := false, narrowed := true }
def FnExactGroupsOkUptoSaid : Prop := fnExactGroupsOkUptoRow.holds Try.pinned (OpenSpec.upto fnExactGroupsOkSpec)

/-- 'laws.FnExactTaskOk', WHERE WHAT IT READS IS OF BULK AT MOST 1048576: true; the input reads as it did. -/
def fnExactTaskOkUptoRow : OpenClaim := { program := "ytfholjcelnkleaa", sum := "609eed99db5d816e2d2a5c492e3973d5b69f7324ae577c3fb937419318453aa0", func := "loop.example/g00490/laws.FnExactTaskOk", spec := "fnExactTaskOk", apart := false, narrowed := true }
def FnExactTaskOkUptoSaid : Prop := fnExactTaskOkUptoRow.holds Try.pinned (OpenSpec.upto fnExactTaskOkSpec)

/-- 'laws.FnExactJoinAll', WHERE WHAT IT READS IS OF BULK AT MOST 1048576: true; the input reads as it did. -/
def fnExactJoinAllUptoRow : OpenClaim := { program := "ytfholjcelnkleaa", sum := "609eed99db5d816e2d2a5c492e3973d5b69f7324ae577c3fb937419318453aa0", func := "loop.example/g00490/laws.FnExactJoinAll", spec := "fnExactJoinAll", apart := false, narrowed := true }
def FnExactJoinAllUptoSaid : Prop := fnExactJoinAllUptoRow.holds Try.pinned (OpenSpec.upto fnExactJoinAllSpec)

/-- 'laws.FnHeards', WHERE WHAT IT READS IS OF BULK AT MOST 1048576: true; the input reads as it did. -/
def fnHeardsUptoRow : OpenClaim := { program := "ytfholjcelnkleaa", sum := "609eed99db5d816e2d2a5c492e3973d5b69f7324ae577c3fb937419318453aa0", func := "loop.example/g00490/laws.FnHeards", spec := "fnHeards", apart := false, narrowed := true }
def FnHeardsUptoSaid : Prop := fnHeardsUptoRow.holds Try.pinned (OpenSpec.upto fnHeardsSpec)

/-- 'laws.FnSubs', WHERE WHAT IT READS IS OF BULK AT MOST 1048576: true; the input reads as it did. -/
def fnSubsUptoRow : OpenClaim := { program := "ytfholjcelnkleaa", sum := "609eed99db5d816e2d2a5c492e3973d5b69f7324ae577c3fb937419318453aa0", func := "loop.example/g00490/laws.FnSubs", spec := "fnSubs", apart := false, narrowed := true }
def FnSubsUptoSaid : Prop := fnSubsUptoRow.holds Try.pinned (OpenSpec.upto fnSubsSpec)

end Rows
end Go.Proofs.Ytfholjcelnkleaa
